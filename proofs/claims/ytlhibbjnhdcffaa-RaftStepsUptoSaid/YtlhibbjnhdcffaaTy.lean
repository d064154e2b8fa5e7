/- Proved here: the part Ty of the proof that the law of this seat returns true for every input; no condition. -/
import Derived.Test.YtlhibbjnhdcffaaProg
import Derived.Test.YtlhibbjnhdcffaaGl13
import Derived.KernelRfl
set_option maxRecDepth 20000
set_option linter.unusedVariables false
set_option linter.unusedSimpArgs false
namespace Go.Proofs.Ytlhibbjnhdcffaa
open Go Go.Gl

theorem sz0 : (Try.prog.info? 0).map (·.size) = some 1 := by kernel_rfl
theorem z0 : (Try.prog.info? 0).bind (·.zero) = some (.tuple #[]) := by kernel_rfl
theorem one0 : oneB Try.prog 0 = true := by kernel_rfl
theorem sz1 : (Try.prog.info? 1).map (·.size) = some 1 := by kernel_rfl
theorem z1 : (Try.prog.info? 1).bind (·.zero) = some .nilFunc := by kernel_rfl
theorem one1 : oneB Try.prog 1 = true := by kernel_rfl
theorem sz2 : (Try.prog.info? 2).map (·.size) = some 1 := by kernel_rfl
theorem z2 : (Try.prog.info? 2).bind (·.zero) = some (.int .i64 0) := by kernel_rfl
theorem one2 : oneB Try.prog 2 = true := by kernel_rfl
theorem int2 : Try.prog.underlying 2 = some (.int .i64) := by kernel_rfl
theorem sz3 : (Try.prog.info? 3).map (·.size) = some 1 := by kernel_rfl
theorem z3 : (Try.prog.info? 3).bind (·.zero) = some (.int .i64 0) := by kernel_rfl
theorem one3 : oneB Try.prog 3 = true := by kernel_rfl
theorem int3 : Try.prog.underlying 3 = some (.int .i64) := by kernel_rfl
theorem sz4 : (Try.prog.info? 4).map (·.size) = some 1 := by kernel_rfl
theorem z4 : (Try.prog.info? 4).bind (·.zero) = some (.bool false) := by kernel_rfl
theorem one4 : oneB Try.prog 4 = true := by kernel_rfl
theorem bool4 : Try.prog.underlying 4 = some .bool := by kernel_rfl
theorem sz5 : (Try.prog.info? 5).map (·.size) = some 1 := by kernel_rfl
theorem z5 : (Try.prog.info? 5).bind (·.zero) = some (.int .u8 0) := by kernel_rfl
theorem one5 : oneB Try.prog 5 = true := by kernel_rfl
theorem int5 : Try.prog.underlying 5 = some (.int .u8) := by kernel_rfl
theorem sz6 : (Try.prog.info? 6).map (·.size) = some 1 := by kernel_rfl
theorem z6 : (Try.prog.info? 6).bind (·.zero) = some (.int .u8 0) := by kernel_rfl
theorem one6 : oneB Try.prog 6 = true := by kernel_rfl
theorem int6 : Try.prog.underlying 6 = some (.int .u8) := by kernel_rfl
theorem sz7 : (Try.prog.info? 7).map (·.size) = some 4 := by kernel_rfl
theorem z7 : (Try.prog.info? 7).bind (·.zero) = some (.agg #[(.int .i64 0), (.int .i64 0), (.bool false), (.int .u8 0)]) := by kernel_rfl
theorem agg7 : aggB Try.prog 7 4 = true := by kernel_rfl
theorem pl7 : structPlaces Try.prog 7 = some [(0, 1), (1, 1), (2, 1), (3, 1)] := by kernel_rfl
theorem fl7_0 : fieldB Try.prog 7 0 0 = true := by kernel_rfl
theorem fl7_1 : fieldB Try.prog 7 1 1 = true := by kernel_rfl
theorem fl7_2 : fieldB Try.prog 7 2 2 = true := by kernel_rfl
theorem fl7_3 : fieldB Try.prog 7 3 3 = true := by kernel_rfl
theorem sz8 : (Try.prog.info? 8).map (·.size) = some 4 := by kernel_rfl
theorem z8 : (Try.prog.info? 8).bind (·.zero) = some (.agg #[(.int .i64 0), (.int .i64 0), (.bool false), (.int .u8 0)]) := by kernel_rfl
theorem agg8 : aggB Try.prog 8 4 = true := by kernel_rfl
theorem pl8 : structPlaces Try.prog 8 = some [(0, 1), (1, 1), (2, 1), (3, 1)] := by kernel_rfl
theorem fl8_0 : fieldB Try.prog 8 0 0 = true := by kernel_rfl
theorem fl8_1 : fieldB Try.prog 8 1 1 = true := by kernel_rfl
theorem fl8_2 : fieldB Try.prog 8 2 2 = true := by kernel_rfl
theorem fl8_3 : fieldB Try.prog 8 3 3 = true := by kernel_rfl
theorem sz9 : (Try.prog.info? 9).map (·.size) = some 1 := by kernel_rfl
theorem z9 : (Try.prog.info? 9).bind (·.zero) = some (.string ⟨#[]⟩) := by kernel_rfl
theorem one9 : oneB Try.prog 9 = true := by kernel_rfl
theorem str9 : Try.prog.underlying 9 = some .string := by kernel_rfl
theorem sz10 : (Try.prog.info? 10).map (·.size) = some 1 := by kernel_rfl
theorem z10 : (Try.prog.info? 10).bind (·.zero) = some (.string ⟨#[]⟩) := by kernel_rfl
theorem one10 : oneB Try.prog 10 = true := by kernel_rfl
theorem str10 : Try.prog.underlying 10 = some .string := by kernel_rfl
theorem sz11 : (Try.prog.info? 11).map (·.size) = some 1 := by kernel_rfl
theorem z11 : (Try.prog.info? 11).bind (·.zero) = some (.string ⟨#[]⟩) := by kernel_rfl
theorem one11 : oneB Try.prog 11 = true := by kernel_rfl
theorem str11 : Try.prog.underlying 11 = some .string := by kernel_rfl
theorem sz12 : (Try.prog.info? 12).map (·.size) = some 1 := by kernel_rfl
theorem z12 : (Try.prog.info? 12).bind (·.zero) = some (.int .u64 0) := by kernel_rfl
theorem one12 : oneB Try.prog 12 = true := by kernel_rfl
theorem int12 : Try.prog.underlying 12 = some (.int .u64) := by kernel_rfl
theorem sz13 : (Try.prog.info? 13).map (·.size) = some 2 := by kernel_rfl
theorem z13 : (Try.prog.info? 13).bind (·.zero) = some (.agg #[(.string ⟨#[]⟩), (.int .u64 0)]) := by kernel_rfl
theorem agg13 : aggB Try.prog 13 2 = true := by kernel_rfl
theorem pl13 : structPlaces Try.prog 13 = some [(0, 1), (1, 1)] := by kernel_rfl
theorem fl13_0 : fieldB Try.prog 13 0 0 = true := by kernel_rfl
theorem fl13_1 : fieldB Try.prog 13 1 1 = true := by kernel_rfl
theorem sz14 : (Try.prog.info? 14).map (·.size) = some 2 := by kernel_rfl
theorem z14 : (Try.prog.info? 14).bind (·.zero) = some (.agg #[(.string ⟨#[]⟩), (.int .u64 0)]) := by kernel_rfl
theorem agg14 : aggB Try.prog 14 2 = true := by kernel_rfl
theorem pl14 : structPlaces Try.prog 14 = some [(0, 1), (1, 1)] := by kernel_rfl
theorem fl14_0 : fieldB Try.prog 14 0 0 = true := by kernel_rfl
theorem fl14_1 : fieldB Try.prog 14 1 1 = true := by kernel_rfl
theorem sz15 : (Try.prog.info? 15).map (·.size) = some 1 := by kernel_rfl
theorem z15 : (Try.prog.info? 15).bind (·.zero) = some (.pointer none) := by kernel_rfl
theorem one15 : oneB Try.prog 15 = true := by kernel_rfl
theorem sz16 : (Try.prog.info? 16).map (·.size) = some 1 := by kernel_rfl
theorem z16 : (Try.prog.info? 16).bind (·.zero) = some (.pointer none) := by kernel_rfl
theorem one16 : oneB Try.prog 16 = true := by kernel_rfl
theorem sz17 : (Try.prog.info? 17).map (·.size) = some 1 := by kernel_rfl
theorem z17 : (Try.prog.info? 17).bind (·.zero) = some (.pointer none) := by kernel_rfl
theorem one17 : oneB Try.prog 17 = true := by kernel_rfl
theorem sz18 : (Try.prog.info? 18).map (·.size) = some 1 := by kernel_rfl
theorem z18 : (Try.prog.info? 18).bind (·.zero) = some (.agg #[(.pointer none)]) := by kernel_rfl
theorem agg18 : aggB Try.prog 18 1 = true := by kernel_rfl
theorem pl18 : structPlaces Try.prog 18 = some [(0, 1)] := by kernel_rfl
theorem fl18_0 : fieldB Try.prog 18 0 0 = true := by kernel_rfl
theorem sz19 : (Try.prog.info? 19).map (·.size) = some 1 := by kernel_rfl
theorem z19 : (Try.prog.info? 19).bind (·.zero) = some (.agg #[(.pointer none)]) := by kernel_rfl
theorem agg19 : aggB Try.prog 19 1 = true := by kernel_rfl
theorem pl19 : structPlaces Try.prog 19 = some [(0, 1)] := by kernel_rfl
theorem fl19_0 : fieldB Try.prog 19 0 0 = true := by kernel_rfl
theorem sz20 : (Try.prog.info? 20).map (·.size) = some 1 := by kernel_rfl
theorem z20 : (Try.prog.info? 20).bind (·.zero) = some .nilIface := by kernel_rfl
theorem one20 : oneB Try.prog 20 = true := by kernel_rfl
theorem sz21 : (Try.prog.info? 21).map (·.size) = some 1 := by kernel_rfl
theorem z21 : (Try.prog.info? 21).bind (·.zero) = some (.int .i32 0) := by kernel_rfl
theorem one21 : oneB Try.prog 21 = true := by kernel_rfl
theorem int21 : Try.prog.underlying 21 = some (.int .i32) := by kernel_rfl
theorem sz22 : (Try.prog.info? 22).map (·.size) = some 1 := by kernel_rfl
theorem z22 : (Try.prog.info? 22).bind (·.zero) = some (.int .u64 0) := by kernel_rfl
theorem one22 : oneB Try.prog 22 = true := by kernel_rfl
theorem int22 : Try.prog.underlying 22 = some (.int .u64) := by kernel_rfl
theorem sz23 : (Try.prog.info? 23).map (·.size) = some 1 := by kernel_rfl
theorem z23 : (Try.prog.info? 23).bind (·.zero) = some (.slice none 0 0) := by kernel_rfl
theorem one23 : oneB Try.prog 23 = true := by kernel_rfl
theorem sl23 : sliceB Try.prog 23 22 1 8 = true := by kernel_rfl
theorem sz24 : (Try.prog.info? 24).map (·.size) = some 5 := by kernel_rfl
theorem z24 : (Try.prog.info? 24).bind (·.zero) = some (.agg #[(.int .u64 0), (.int .i64 0), (.int .u64 0), (.int .u64 0), (.slice none 0 0)]) := by kernel_rfl
theorem agg24 : aggB Try.prog 24 5 = true := by kernel_rfl
theorem pl24 : structPlaces Try.prog 24 = some [(0, 1), (1, 1), (2, 1), (3, 1), (4, 1)] := by kernel_rfl
theorem fl24_0 : fieldB Try.prog 24 0 0 = true := by kernel_rfl
theorem fl24_1 : fieldB Try.prog 24 1 1 = true := by kernel_rfl
theorem fl24_2 : fieldB Try.prog 24 2 2 = true := by kernel_rfl
theorem fl24_3 : fieldB Try.prog 24 3 3 = true := by kernel_rfl
theorem fl24_4 : fieldB Try.prog 24 4 4 = true := by kernel_rfl
theorem sz25 : (Try.prog.info? 25).map (·.size) = some 5 := by kernel_rfl
theorem z25 : (Try.prog.info? 25).bind (·.zero) = some (.agg #[(.int .u64 0), (.int .i64 0), (.int .u64 0), (.int .u64 0), (.slice none 0 0)]) := by kernel_rfl
theorem agg25 : aggB Try.prog 25 5 = true := by kernel_rfl
theorem pl25 : structPlaces Try.prog 25 = some [(0, 1), (1, 1), (2, 1), (3, 1), (4, 1)] := by kernel_rfl
theorem fl25_0 : fieldB Try.prog 25 0 0 = true := by kernel_rfl
theorem fl25_1 : fieldB Try.prog 25 1 1 = true := by kernel_rfl
theorem fl25_2 : fieldB Try.prog 25 2 2 = true := by kernel_rfl
theorem fl25_3 : fieldB Try.prog 25 3 3 = true := by kernel_rfl
theorem fl25_4 : fieldB Try.prog 25 4 4 = true := by kernel_rfl
theorem sz26 : (Try.prog.info? 26).map (·.size) = some 1 := by kernel_rfl
theorem z26 : (Try.prog.info? 26).bind (·.zero) = some (.slice none 0 0) := by kernel_rfl
theorem one26 : oneB Try.prog 26 = true := by kernel_rfl
theorem sl26 : sliceB Try.prog 26 44 9 88 = true := by kernel_rfl
theorem sz27 : (Try.prog.info? 27).map (·.size) = some 1 := by kernel_rfl
theorem z27 : (Try.prog.info? 27).bind (·.zero) = some .nilFunc := by kernel_rfl
theorem one27 : oneB Try.prog 27 = true := by kernel_rfl
theorem sz28 : (Try.prog.info? 28).map (·.size) = some 1 := by kernel_rfl
theorem z28 : (Try.prog.info? 28).bind (·.zero) = some (.pointer none) := by kernel_rfl
theorem one28 : oneB Try.prog 28 = true := by kernel_rfl
theorem sz29 : (Try.prog.info? 29).map (·.size) = some 1 := by kernel_rfl
theorem z29 : (Try.prog.info? 29).bind (·.zero) = some (.int .i64 0) := by kernel_rfl
theorem one29 : oneB Try.prog 29 = true := by kernel_rfl
theorem int29 : Try.prog.underlying 29 = some (.int .i64) := by kernel_rfl
theorem sz30 : (Try.prog.info? 30).map (·.size) = some 1 := by kernel_rfl
theorem z30 : (Try.prog.info? 30).bind (·.zero) = some (.tuple #[(.pointer none), (.int .i64 0)]) := by kernel_rfl
theorem one30 : oneB Try.prog 30 = true := by kernel_rfl
theorem sz31 : (Try.prog.info? 31).map (·.size) = some 1 := by kernel_rfl
theorem z31 : (Try.prog.info? 31).bind (·.zero) = some .nilFunc := by kernel_rfl
theorem one31 : oneB Try.prog 31 = true := by kernel_rfl
theorem sz32 : (Try.prog.info? 32).map (·.size) = some 2 := by kernel_rfl
theorem z32 : (Try.prog.info? 32).bind (·.zero) = some (.agg #[(.int .u64 0), (.int .i64 0)]) := by kernel_rfl
theorem agg32 : aggB Try.prog 32 2 = true := by kernel_rfl
theorem pl32 : structPlaces Try.prog 32 = some [(0, 1), (1, 1)] := by kernel_rfl
theorem fl32_0 : fieldB Try.prog 32 0 0 = true := by kernel_rfl
theorem fl32_1 : fieldB Try.prog 32 1 1 = true := by kernel_rfl
theorem sz33 : (Try.prog.info? 33).map (·.size) = some 2 := by kernel_rfl
theorem z33 : (Try.prog.info? 33).bind (·.zero) = some (.agg #[(.int .u64 0), (.int .i64 0)]) := by kernel_rfl
theorem agg33 : aggB Try.prog 33 2 = true := by kernel_rfl
theorem pl33 : structPlaces Try.prog 33 = some [(0, 1), (1, 1)] := by kernel_rfl
theorem fl33_0 : fieldB Try.prog 33 0 0 = true := by kernel_rfl
theorem fl33_1 : fieldB Try.prog 33 1 1 = true := by kernel_rfl
theorem sz34 : (Try.prog.info? 34).map (·.size) = some 1 := by kernel_rfl
theorem z34 : (Try.prog.info? 34).bind (·.zero) = some (.slice none 0 0) := by kernel_rfl
theorem one34 : oneB Try.prog 34 = true := by kernel_rfl
theorem sl34 : sliceB Try.prog 34 125 2 32 = true := by kernel_rfl
theorem sz35 : (Try.prog.info? 35).map (·.size) = some 5 := by kernel_rfl
theorem z35 : (Try.prog.info? 35).bind (·.zero) = some (.agg #[(.int .u64 0), (.int .i64 0), (.int .u64 0), (.int .u64 0), (.slice none 0 0)]) := by kernel_rfl
theorem agg35 : aggB Try.prog 35 5 = true := by kernel_rfl
theorem pl35 : structPlaces Try.prog 35 = some [(0, 2), (2, 1), (3, 1), (4, 1)] := by kernel_rfl
theorem fl35_0 : fieldB Try.prog 35 0 0 = true := by kernel_rfl
theorem fl35_1 : fieldB Try.prog 35 1 2 = true := by kernel_rfl
theorem fl35_2 : fieldB Try.prog 35 2 3 = true := by kernel_rfl
theorem fl35_3 : fieldB Try.prog 35 3 4 = true := by kernel_rfl
theorem sz36 : (Try.prog.info? 36).map (·.size) = some 5 := by kernel_rfl
theorem z36 : (Try.prog.info? 36).bind (·.zero) = some (.agg #[(.int .u64 0), (.int .i64 0), (.int .u64 0), (.int .u64 0), (.slice none 0 0)]) := by kernel_rfl
theorem agg36 : aggB Try.prog 36 5 = true := by kernel_rfl
theorem pl36 : structPlaces Try.prog 36 = some [(0, 2), (2, 1), (3, 1), (4, 1)] := by kernel_rfl
theorem fl36_0 : fieldB Try.prog 36 0 0 = true := by kernel_rfl
theorem fl36_1 : fieldB Try.prog 36 1 2 = true := by kernel_rfl
theorem fl36_2 : fieldB Try.prog 36 2 3 = true := by kernel_rfl
theorem fl36_3 : fieldB Try.prog 36 3 4 = true := by kernel_rfl
theorem sz37 : (Try.prog.info? 37).map (·.size) = some 1 := by kernel_rfl
theorem z37 : (Try.prog.info? 37).bind (·.zero) = some .nilFunc := by kernel_rfl
theorem one37 : oneB Try.prog 37 = true := by kernel_rfl
theorem sz38 : (Try.prog.info? 38).map (·.size) = some 1 := by kernel_rfl
theorem z38 : (Try.prog.info? 38).bind (·.zero) = some .nilFunc := by kernel_rfl
theorem one38 : oneB Try.prog 38 = true := by kernel_rfl
theorem sz39 : (Try.prog.info? 39).map (·.size) = some 1 := by kernel_rfl
theorem z39 : (Try.prog.info? 39).bind (·.zero) = some (.slice none 0 0) := by kernel_rfl
theorem one39 : oneB Try.prog 39 = true := by kernel_rfl
theorem sl39 : sliceB Try.prog 39 5 1 1 = true := by kernel_rfl
theorem sz40 : (Try.prog.info? 40).map (·.size) = some 10 := by kernel_rfl
theorem z40 : (Try.prog.info? 40).bind (·.zero) = some (.agg #[(.int .i64 0), (.int .i64 0), (.int .i64 0), (.int .u64 0), (.int .u64 0), (.int .u64 0), (.int .u64 0), (.slice none 0 0), (.bool false), (.slice none 0 0)]) := by kernel_rfl
theorem agg40 : aggB Try.prog 40 10 = true := by kernel_rfl
theorem pl40 : structPlaces Try.prog 40 = some [(0, 1), (1, 1), (2, 1), (3, 1), (4, 1), (5, 1), (6, 1), (7, 1), (8, 1), (9, 1)] := by kernel_rfl
theorem fl40_0 : fieldB Try.prog 40 0 0 = true := by kernel_rfl
theorem fl40_1 : fieldB Try.prog 40 1 1 = true := by kernel_rfl
theorem fl40_2 : fieldB Try.prog 40 2 2 = true := by kernel_rfl
theorem fl40_3 : fieldB Try.prog 40 3 3 = true := by kernel_rfl
theorem fl40_4 : fieldB Try.prog 40 4 4 = true := by kernel_rfl
theorem fl40_5 : fieldB Try.prog 40 5 5 = true := by kernel_rfl
theorem fl40_6 : fieldB Try.prog 40 6 6 = true := by kernel_rfl
theorem fl40_7 : fieldB Try.prog 40 7 7 = true := by kernel_rfl
theorem fl40_8 : fieldB Try.prog 40 8 8 = true := by kernel_rfl
theorem fl40_9 : fieldB Try.prog 40 9 9 = true := by kernel_rfl
theorem sz41 : (Try.prog.info? 41).map (·.size) = some 10 := by kernel_rfl
theorem z41 : (Try.prog.info? 41).bind (·.zero) = some (.agg #[(.int .i64 0), (.int .i64 0), (.int .i64 0), (.int .u64 0), (.int .u64 0), (.int .u64 0), (.int .u64 0), (.slice none 0 0), (.bool false), (.slice none 0 0)]) := by kernel_rfl
theorem agg41 : aggB Try.prog 41 10 = true := by kernel_rfl
theorem pl41 : structPlaces Try.prog 41 = some [(0, 1), (1, 1), (2, 1), (3, 1), (4, 1), (5, 1), (6, 1), (7, 1), (8, 1), (9, 1)] := by kernel_rfl
theorem fl41_0 : fieldB Try.prog 41 0 0 = true := by kernel_rfl
theorem fl41_1 : fieldB Try.prog 41 1 1 = true := by kernel_rfl
theorem fl41_2 : fieldB Try.prog 41 2 2 = true := by kernel_rfl
theorem fl41_3 : fieldB Try.prog 41 3 3 = true := by kernel_rfl
theorem fl41_4 : fieldB Try.prog 41 4 4 = true := by kernel_rfl
theorem fl41_5 : fieldB Try.prog 41 5 5 = true := by kernel_rfl
theorem fl41_6 : fieldB Try.prog 41 6 6 = true := by kernel_rfl
theorem fl41_7 : fieldB Try.prog 41 7 7 = true := by kernel_rfl
theorem fl41_8 : fieldB Try.prog 41 8 8 = true := by kernel_rfl
theorem fl41_9 : fieldB Try.prog 41 9 9 = true := by kernel_rfl
theorem sz42 : (Try.prog.info? 42).map (·.size) = some 1 := by kernel_rfl
theorem z42 : (Try.prog.info? 42).bind (·.zero) = some .nilFunc := by kernel_rfl
theorem one42 : oneB Try.prog 42 = true := by kernel_rfl
theorem sz43 : (Try.prog.info? 43).map (·.size) = some 9 := by kernel_rfl
theorem z43 : (Try.prog.info? 43).bind (·.zero) = some (.agg #[(.int .i64 0), (.int .i64 0), (.int .i64 0), (.int .u64 0), (.int .u64 0), (.int .u64 0), (.int .u64 0), (.slice none 0 0), (.bool false)]) := by kernel_rfl
theorem agg43 : aggB Try.prog 43 9 = true := by kernel_rfl
theorem pl43 : structPlaces Try.prog 43 = some [(0, 1), (1, 1), (2, 1), (3, 1), (4, 1), (5, 1), (6, 1), (7, 1), (8, 1)] := by kernel_rfl
theorem fl43_0 : fieldB Try.prog 43 0 0 = true := by kernel_rfl
theorem fl43_1 : fieldB Try.prog 43 1 1 = true := by kernel_rfl
theorem fl43_2 : fieldB Try.prog 43 2 2 = true := by kernel_rfl
theorem fl43_3 : fieldB Try.prog 43 3 3 = true := by kernel_rfl
theorem fl43_4 : fieldB Try.prog 43 4 4 = true := by kernel_rfl
theorem fl43_5 : fieldB Try.prog 43 5 5 = true := by kernel_rfl
theorem fl43_6 : fieldB Try.prog 43 6 6 = true := by kernel_rfl
theorem fl43_7 : fieldB Try.prog 43 7 7 = true := by kernel_rfl
theorem fl43_8 : fieldB Try.prog 43 8 8 = true := by kernel_rfl
theorem sz44 : (Try.prog.info? 44).map (·.size) = some 9 := by kernel_rfl
theorem z44 : (Try.prog.info? 44).bind (·.zero) = some (.agg #[(.int .i64 0), (.int .i64 0), (.int .i64 0), (.int .u64 0), (.int .u64 0), (.int .u64 0), (.int .u64 0), (.slice none 0 0), (.bool false)]) := by kernel_rfl
theorem agg44 : aggB Try.prog 44 9 = true := by kernel_rfl
theorem pl44 : structPlaces Try.prog 44 = some [(0, 1), (1, 1), (2, 1), (3, 1), (4, 1), (5, 1), (6, 1), (7, 1), (8, 1)] := by kernel_rfl
theorem fl44_0 : fieldB Try.prog 44 0 0 = true := by kernel_rfl
theorem fl44_1 : fieldB Try.prog 44 1 1 = true := by kernel_rfl
theorem fl44_2 : fieldB Try.prog 44 2 2 = true := by kernel_rfl
theorem fl44_3 : fieldB Try.prog 44 3 3 = true := by kernel_rfl
theorem fl44_4 : fieldB Try.prog 44 4 4 = true := by kernel_rfl
theorem fl44_5 : fieldB Try.prog 44 5 5 = true := by kernel_rfl
theorem fl44_6 : fieldB Try.prog 44 6 6 = true := by kernel_rfl
theorem fl44_7 : fieldB Try.prog 44 7 7 = true := by kernel_rfl
theorem fl44_8 : fieldB Try.prog 44 8 8 = true := by kernel_rfl
theorem sz45 : (Try.prog.info? 45).map (·.size) = some 1 := by kernel_rfl
theorem z45 : (Try.prog.info? 45).bind (·.zero) = some (.slice none 0 0) := by kernel_rfl
theorem one45 : oneB Try.prog 45 = true := by kernel_rfl
theorem sl45 : sliceB Try.prog 45 4 1 1 = true := by kernel_rfl
theorem sz46 : (Try.prog.info? 46).map (·.size) = some 15 := by kernel_rfl
theorem z46 : (Try.prog.info? 46).bind (·.zero) = some (.agg #[(.int .u64 0), (.int .i64 0), (.int .u64 0), (.int .u64 0), (.slice none 0 0), (.int .i64 0), (.int .i64 0), (.int .i64 0), (.int .i64 0), (.int .i64 0), (.int .u64 0), (.int .i64 0), (.slice none 0 0), (.slice none 0 0), (.slice none 0 0)]) := by kernel_rfl
theorem agg46 : aggB Try.prog 46 15 = true := by kernel_rfl
theorem pl46 : structPlaces Try.prog 46 = some [(0, 5), (5, 1), (6, 1), (7, 1), (8, 1), (9, 1), (10, 1), (11, 1), (12, 1), (13, 1), (14, 1)] := by kernel_rfl
theorem fl46_0 : fieldB Try.prog 46 0 0 = true := by kernel_rfl
theorem fl46_1 : fieldB Try.prog 46 1 5 = true := by kernel_rfl
theorem fl46_2 : fieldB Try.prog 46 2 6 = true := by kernel_rfl
theorem fl46_3 : fieldB Try.prog 46 3 7 = true := by kernel_rfl
theorem fl46_4 : fieldB Try.prog 46 4 8 = true := by kernel_rfl
theorem fl46_5 : fieldB Try.prog 46 5 9 = true := by kernel_rfl
theorem fl46_6 : fieldB Try.prog 46 6 10 = true := by kernel_rfl
theorem fl46_7 : fieldB Try.prog 46 7 11 = true := by kernel_rfl
theorem fl46_8 : fieldB Try.prog 46 8 12 = true := by kernel_rfl
theorem fl46_9 : fieldB Try.prog 46 9 13 = true := by kernel_rfl
theorem fl46_10 : fieldB Try.prog 46 10 14 = true := by kernel_rfl
theorem sz47 : (Try.prog.info? 47).map (·.size) = some 15 := by kernel_rfl
theorem z47 : (Try.prog.info? 47).bind (·.zero) = some (.agg #[(.int .u64 0), (.int .i64 0), (.int .u64 0), (.int .u64 0), (.slice none 0 0), (.int .i64 0), (.int .i64 0), (.int .i64 0), (.int .i64 0), (.int .i64 0), (.int .u64 0), (.int .i64 0), (.slice none 0 0), (.slice none 0 0), (.slice none 0 0)]) := by kernel_rfl
theorem agg47 : aggB Try.prog 47 15 = true := by kernel_rfl
theorem pl47 : structPlaces Try.prog 47 = some [(0, 5), (5, 1), (6, 1), (7, 1), (8, 1), (9, 1), (10, 1), (11, 1), (12, 1), (13, 1), (14, 1)] := by kernel_rfl
theorem fl47_0 : fieldB Try.prog 47 0 0 = true := by kernel_rfl
theorem fl47_1 : fieldB Try.prog 47 1 5 = true := by kernel_rfl
theorem fl47_2 : fieldB Try.prog 47 2 6 = true := by kernel_rfl
theorem fl47_3 : fieldB Try.prog 47 3 7 = true := by kernel_rfl
theorem fl47_4 : fieldB Try.prog 47 4 8 = true := by kernel_rfl
theorem fl47_5 : fieldB Try.prog 47 5 9 = true := by kernel_rfl
theorem fl47_6 : fieldB Try.prog 47 6 10 = true := by kernel_rfl
theorem fl47_7 : fieldB Try.prog 47 7 11 = true := by kernel_rfl
theorem fl47_8 : fieldB Try.prog 47 8 12 = true := by kernel_rfl
theorem fl47_9 : fieldB Try.prog 47 9 13 = true := by kernel_rfl
theorem fl47_10 : fieldB Try.prog 47 10 14 = true := by kernel_rfl
theorem sz48 : (Try.prog.info? 48).map (·.size) = some 1 := by kernel_rfl
theorem z48 : (Try.prog.info? 48).bind (·.zero) = some .nilFunc := by kernel_rfl
theorem one48 : oneB Try.prog 48 = true := by kernel_rfl
theorem sz49 : (Try.prog.info? 49).map (·.size) = some 1 := by kernel_rfl
theorem z49 : (Try.prog.info? 49).bind (·.zero) = some (.slice none 0 0) := by kernel_rfl
theorem one49 : oneB Try.prog 49 = true := by kernel_rfl
theorem sl49 : sliceB Try.prog 49 41 10 112 = true := by kernel_rfl
theorem sz50 : (Try.prog.info? 50).map (·.size) = some 1 := by kernel_rfl
theorem z50 : (Try.prog.info? 50).bind (·.zero) = some .nilFunc := by kernel_rfl
theorem one50 : oneB Try.prog 50 = true := by kernel_rfl
theorem sz51 : (Try.prog.info? 51).map (·.size) = some 1 := by kernel_rfl
theorem z51 : (Try.prog.info? 51).bind (·.zero) = some .nilFunc := by kernel_rfl
theorem one51 : oneB Try.prog 51 = true := by kernel_rfl
theorem sz52 : (Try.prog.info? 52).map (·.size) = some 1 := by kernel_rfl
theorem z52 : (Try.prog.info? 52).bind (·.zero) = some .nilFunc := by kernel_rfl
theorem one52 : oneB Try.prog 52 = true := by kernel_rfl
theorem sz53 : (Try.prog.info? 53).map (·.size) = some 1 := by kernel_rfl
theorem z53 : (Try.prog.info? 53).bind (·.zero) = some (.slice none 0 0) := by kernel_rfl
theorem one53 : oneB Try.prog 53 = true := by kernel_rfl
theorem sl53 : sliceB Try.prog 53 130 2 32 = true := by kernel_rfl
theorem sz54 : (Try.prog.info? 54).map (·.size) = some 7 := by kernel_rfl
theorem z54 : (Try.prog.info? 54).bind (·.zero) = some (.agg #[(.int .u64 0), (.int .i64 0), (.int .i64 0), (.int .u64 0), (.int .u64 0), (.slice none 0 0), (.int .u64 0)]) := by kernel_rfl
theorem agg54 : aggB Try.prog 54 7 = true := by kernel_rfl
theorem pl54 : structPlaces Try.prog 54 = some [(0, 1), (1, 1), (2, 1), (3, 1), (4, 1), (5, 1), (6, 1)] := by kernel_rfl
theorem fl54_0 : fieldB Try.prog 54 0 0 = true := by kernel_rfl
theorem fl54_1 : fieldB Try.prog 54 1 1 = true := by kernel_rfl
theorem fl54_2 : fieldB Try.prog 54 2 2 = true := by kernel_rfl
theorem fl54_3 : fieldB Try.prog 54 3 3 = true := by kernel_rfl
theorem fl54_4 : fieldB Try.prog 54 4 4 = true := by kernel_rfl
theorem fl54_5 : fieldB Try.prog 54 5 5 = true := by kernel_rfl
theorem fl54_6 : fieldB Try.prog 54 6 6 = true := by kernel_rfl
theorem sz55 : (Try.prog.info? 55).map (·.size) = some 7 := by kernel_rfl
theorem z55 : (Try.prog.info? 55).bind (·.zero) = some (.agg #[(.int .u64 0), (.int .i64 0), (.int .i64 0), (.int .u64 0), (.int .u64 0), (.slice none 0 0), (.int .u64 0)]) := by kernel_rfl
theorem agg55 : aggB Try.prog 55 7 = true := by kernel_rfl
theorem pl55 : structPlaces Try.prog 55 = some [(0, 1), (1, 1), (2, 1), (3, 1), (4, 1), (5, 1), (6, 1)] := by kernel_rfl
theorem fl55_0 : fieldB Try.prog 55 0 0 = true := by kernel_rfl
theorem fl55_1 : fieldB Try.prog 55 1 1 = true := by kernel_rfl
theorem fl55_2 : fieldB Try.prog 55 2 2 = true := by kernel_rfl
theorem fl55_3 : fieldB Try.prog 55 3 3 = true := by kernel_rfl
theorem fl55_4 : fieldB Try.prog 55 4 4 = true := by kernel_rfl
theorem fl55_5 : fieldB Try.prog 55 5 5 = true := by kernel_rfl
theorem fl55_6 : fieldB Try.prog 55 6 6 = true := by kernel_rfl
theorem sz56 : (Try.prog.info? 56).map (·.size) = some 1 := by kernel_rfl
theorem z56 : (Try.prog.info? 56).bind (·.zero) = some .nilFunc := by kernel_rfl
theorem one56 : oneB Try.prog 56 = true := by kernel_rfl
theorem sz57 : (Try.prog.info? 57).map (·.size) = some 1 := by kernel_rfl
theorem z57 : (Try.prog.info? 57).bind (·.zero) = some .nilFunc := by kernel_rfl
theorem one57 : oneB Try.prog 57 = true := by kernel_rfl
theorem sz58 : (Try.prog.info? 58).map (·.size) = some 1 := by kernel_rfl
theorem z58 : (Try.prog.info? 58).bind (·.zero) = some (.tuple #[(.int .u64 0), (.bool false)]) := by kernel_rfl
theorem one58 : oneB Try.prog 58 = true := by kernel_rfl
theorem sz59 : (Try.prog.info? 59).map (·.size) = some 1 := by kernel_rfl
theorem z59 : (Try.prog.info? 59).bind (·.zero) = some .nilFunc := by kernel_rfl
theorem one59 : oneB Try.prog 59 = true := by kernel_rfl
theorem sz60 : (Try.prog.info? 60).map (·.size) = some 1 := by kernel_rfl
theorem z60 : (Try.prog.info? 60).bind (·.zero) = some .nilFunc := by kernel_rfl
theorem one60 : oneB Try.prog 60 = true := by kernel_rfl
theorem sz61 : (Try.prog.info? 61).map (·.size) = some 1 := by kernel_rfl
theorem z61 : (Try.prog.info? 61).bind (·.zero) = some (.slice none 0 0) := by kernel_rfl
theorem one61 : oneB Try.prog 61 = true := by kernel_rfl
theorem sl61 : sliceB Try.prog 61 66 4 48 = true := by kernel_rfl
theorem sz62 : (Try.prog.info? 62).map (·.size) = some 1 := by kernel_rfl
theorem z62 : (Try.prog.info? 62).bind (·.zero) = some (.pointer none) := by kernel_rfl
theorem one62 : oneB Try.prog 62 = true := by kernel_rfl
theorem sz63 : (Try.prog.info? 63).map (·.size) = some 1 := by kernel_rfl
theorem z63 : (Try.prog.info? 63).bind (·.zero) = some .nilFunc := by kernel_rfl
theorem one63 : oneB Try.prog 63 = true := by kernel_rfl
theorem sz64 : (Try.prog.info? 64).map (·.size) = some 1 := by kernel_rfl
theorem z64 : (Try.prog.info? 64).bind (·.zero) = some .nilFunc := by kernel_rfl
theorem one64 : oneB Try.prog 64 = true := by kernel_rfl
theorem sz65 : (Try.prog.info? 65).map (·.size) = some 4 := by kernel_rfl
theorem z65 : (Try.prog.info? 65).bind (·.zero) = some (.agg #[(.int .i64 0), (.int .i64 0), (.int .i64 0), (.slice none 0 0)]) := by kernel_rfl
theorem agg65 : aggB Try.prog 65 4 = true := by kernel_rfl
theorem pl65 : structPlaces Try.prog 65 = some [(0, 1), (1, 1), (2, 1), (3, 1)] := by kernel_rfl
theorem fl65_0 : fieldB Try.prog 65 0 0 = true := by kernel_rfl
theorem fl65_1 : fieldB Try.prog 65 1 1 = true := by kernel_rfl
theorem fl65_2 : fieldB Try.prog 65 2 2 = true := by kernel_rfl
theorem fl65_3 : fieldB Try.prog 65 3 3 = true := by kernel_rfl
theorem sz66 : (Try.prog.info? 66).map (·.size) = some 4 := by kernel_rfl
theorem z66 : (Try.prog.info? 66).bind (·.zero) = some (.agg #[(.int .i64 0), (.int .i64 0), (.int .i64 0), (.slice none 0 0)]) := by kernel_rfl
theorem agg66 : aggB Try.prog 66 4 = true := by kernel_rfl
theorem pl66 : structPlaces Try.prog 66 = some [(0, 1), (1, 1), (2, 1), (3, 1)] := by kernel_rfl
theorem fl66_0 : fieldB Try.prog 66 0 0 = true := by kernel_rfl
theorem fl66_1 : fieldB Try.prog 66 1 1 = true := by kernel_rfl
theorem fl66_2 : fieldB Try.prog 66 2 2 = true := by kernel_rfl
theorem fl66_3 : fieldB Try.prog 66 3 3 = true := by kernel_rfl
theorem sz67 : (Try.prog.info? 67).map (·.size) = some 1 := by kernel_rfl
theorem z67 : (Try.prog.info? 67).bind (·.zero) = some (.slice none 0 0) := by kernel_rfl
theorem one67 : oneB Try.prog 67 = true := by kernel_rfl
theorem sl67 : sliceB Try.prog 67 28 1 8 = true := by kernel_rfl
theorem sz68 : (Try.prog.info? 68).map (·.size) = some 1 := by kernel_rfl
theorem z68 : (Try.prog.info? 68).bind (·.zero) = some (.slice none 0 0) := by kernel_rfl
theorem one68 : oneB Try.prog 68 = true := by kernel_rfl
theorem sl68 : sliceB Try.prog 68 173 2 16 = true := by kernel_rfl
theorem sz69 : (Try.prog.info? 69).map (·.size) = some 1 := by kernel_rfl
theorem z69 : (Try.prog.info? 69).bind (·.zero) = some (.slice none 0 0) := by kernel_rfl
theorem one69 : oneB Try.prog 69 = true := by kernel_rfl
theorem sl69 : sliceB Try.prog 69 177 4 48 = true := by kernel_rfl
theorem sz70 : (Try.prog.info? 70).map (·.size) = some 6 := by kernel_rfl
theorem z70 : (Try.prog.info? 70).bind (·.zero) = some (.agg #[(.slice none 0 0), (.int .i64 0), (.slice none 0 0), (.slice none 0 0), (.slice none 0 0), (.bool false)]) := by kernel_rfl
theorem agg70 : aggB Try.prog 70 6 = true := by kernel_rfl
theorem pl70 : structPlaces Try.prog 70 = some [(0, 1), (1, 1), (2, 1), (3, 1), (4, 1), (5, 1)] := by kernel_rfl
theorem fl70_0 : fieldB Try.prog 70 0 0 = true := by kernel_rfl
theorem fl70_1 : fieldB Try.prog 70 1 1 = true := by kernel_rfl
theorem fl70_2 : fieldB Try.prog 70 2 2 = true := by kernel_rfl
theorem fl70_3 : fieldB Try.prog 70 3 3 = true := by kernel_rfl
theorem fl70_4 : fieldB Try.prog 70 4 4 = true := by kernel_rfl
theorem fl70_5 : fieldB Try.prog 70 5 5 = true := by kernel_rfl
theorem sz71 : (Try.prog.info? 71).map (·.size) = some 6 := by kernel_rfl
theorem z71 : (Try.prog.info? 71).bind (·.zero) = some (.agg #[(.slice none 0 0), (.int .i64 0), (.slice none 0 0), (.slice none 0 0), (.slice none 0 0), (.bool false)]) := by kernel_rfl
theorem agg71 : aggB Try.prog 71 6 = true := by kernel_rfl
theorem pl71 : structPlaces Try.prog 71 = some [(0, 1), (1, 1), (2, 1), (3, 1), (4, 1), (5, 1)] := by kernel_rfl
theorem fl71_0 : fieldB Try.prog 71 0 0 = true := by kernel_rfl
theorem fl71_1 : fieldB Try.prog 71 1 1 = true := by kernel_rfl
theorem fl71_2 : fieldB Try.prog 71 2 2 = true := by kernel_rfl
theorem fl71_3 : fieldB Try.prog 71 3 3 = true := by kernel_rfl
theorem fl71_4 : fieldB Try.prog 71 4 4 = true := by kernel_rfl
theorem fl71_5 : fieldB Try.prog 71 5 5 = true := by kernel_rfl
theorem sz72 : (Try.prog.info? 72).map (·.size) = some 1 := by kernel_rfl
theorem z72 : (Try.prog.info? 72).bind (·.zero) = some .nilFunc := by kernel_rfl
theorem one72 : oneB Try.prog 72 = true := by kernel_rfl
theorem sz73 : (Try.prog.info? 73).map (·.size) = some 1 := by kernel_rfl
theorem z73 : (Try.prog.info? 73).bind (·.zero) = some .nilFunc := by kernel_rfl
theorem one73 : oneB Try.prog 73 = true := by kernel_rfl
theorem sz74 : (Try.prog.info? 74).map (·.size) = some 1 := by kernel_rfl
theorem z74 : (Try.prog.info? 74).bind (·.zero) = some .nilFunc := by kernel_rfl
theorem one74 : oneB Try.prog 74 = true := by kernel_rfl
theorem sz75 : (Try.prog.info? 75).map (·.size) = some 1 := by kernel_rfl
theorem z75 : (Try.prog.info? 75).bind (·.zero) = some .nilFunc := by kernel_rfl
theorem one75 : oneB Try.prog 75 = true := by kernel_rfl
theorem sz76 : (Try.prog.info? 76).map (·.size) = some 1 := by kernel_rfl
theorem z76 : (Try.prog.info? 76).bind (·.zero) = some .nilFunc := by kernel_rfl
theorem one76 : oneB Try.prog 76 = true := by kernel_rfl
theorem sz77 : (Try.prog.info? 77).map (·.size) = some 1 := by kernel_rfl
theorem z77 : (Try.prog.info? 77).bind (·.zero) = some (.tuple #[(.int .u64 0), (.slice none 0 0), (.int .i64 0)]) := by kernel_rfl
theorem one77 : oneB Try.prog 77 = true := by kernel_rfl
theorem sz78 : (Try.prog.info? 78).map (·.size) = some 1 := by kernel_rfl
theorem z78 : (Try.prog.info? 78).bind (·.zero) = some .nilFunc := by kernel_rfl
theorem one78 : oneB Try.prog 78 = true := by kernel_rfl
theorem sz79 : (Try.prog.info? 79).map (·.size) = some 1 := by kernel_rfl
theorem z79 : (Try.prog.info? 79).bind (·.zero) = some .nilFunc := by kernel_rfl
theorem one79 : oneB Try.prog 79 = true := by kernel_rfl
theorem sz80 : (Try.prog.info? 80).map (·.size) = some 1 := by kernel_rfl
theorem z80 : (Try.prog.info? 80).bind (·.zero) = some (.slice none 0 0) := by kernel_rfl
theorem one80 : oneB Try.prog 80 = true := by kernel_rfl
theorem sl80 : sliceB Try.prog 80 84 1 24 = true := by kernel_rfl
theorem sz81 : (Try.prog.info? 81).map (·.size) = some 1 := by kernel_rfl
theorem z81 : (Try.prog.info? 81).bind (·.zero) = some (.pointer none) := by kernel_rfl
theorem one81 : oneB Try.prog 81 = true := by kernel_rfl
theorem sz82 : (Try.prog.info? 82).map (·.size) = some 1 := by kernel_rfl
theorem z82 : (Try.prog.info? 82).bind (·.zero) = some .nilFunc := by kernel_rfl
theorem one82 : oneB Try.prog 82 = true := by kernel_rfl
theorem sz83 : (Try.prog.info? 83).map (·.size) = some 1 := by kernel_rfl
theorem z83 : (Try.prog.info? 83).bind (·.zero) = some (.pointer none) := by kernel_rfl
theorem one83 : oneB Try.prog 83 = true := by kernel_rfl
theorem sz84 : (Try.prog.info? 84).map (·.size) = some 1 := by kernel_rfl
theorem z84 : (Try.prog.info? 84).bind (·.zero) = some (.slice none 0 0) := by kernel_rfl
theorem one84 : oneB Try.prog 84 = true := by kernel_rfl
theorem sl84 : sliceB Try.prog 84 39 1 24 = true := by kernel_rfl
theorem sz85 : (Try.prog.info? 85).map (·.size) = some 1 := by kernel_rfl
theorem z85 : (Try.prog.info? 85).bind (·.zero) = some (.tuple #[(.pointer none), (.slice none 0 0), (.int .i64 0)]) := by kernel_rfl
theorem one85 : oneB Try.prog 85 = true := by kernel_rfl
theorem sz86 : (Try.prog.info? 86).map (·.size) = some 1 := by kernel_rfl
theorem z86 : (Try.prog.info? 86).bind (·.zero) = some .nilFunc := by kernel_rfl
theorem one86 : oneB Try.prog 86 = true := by kernel_rfl
theorem sz87 : (Try.prog.info? 87).map (·.size) = some 1 := by kernel_rfl
theorem z87 : (Try.prog.info? 87).bind (·.zero) = some .nilFunc := by kernel_rfl
theorem one87 : oneB Try.prog 87 = true := by kernel_rfl
theorem sz88 : (Try.prog.info? 88).map (·.size) = some 1 := by kernel_rfl
theorem z88 : (Try.prog.info? 88).bind (·.zero) = some (.tuple #[(.int .u64 0), (.int .i64 0)]) := by kernel_rfl
theorem one88 : oneB Try.prog 88 = true := by kernel_rfl
theorem sz89 : (Try.prog.info? 89).map (·.size) = some 1 := by kernel_rfl
theorem z89 : (Try.prog.info? 89).bind (·.zero) = some .nilFunc := by kernel_rfl
theorem one89 : oneB Try.prog 89 = true := by kernel_rfl
theorem sz90 : (Try.prog.info? 90).map (·.size) = some 1 := by kernel_rfl
theorem z90 : (Try.prog.info? 90).bind (·.zero) = some .nilFunc := by kernel_rfl
theorem one90 : oneB Try.prog 90 = true := by kernel_rfl
theorem sz91 : (Try.prog.info? 91).map (·.size) = some 1 := by kernel_rfl
theorem z91 : (Try.prog.info? 91).bind (·.zero) = some .nilFunc := by kernel_rfl
theorem one91 : oneB Try.prog 91 = true := by kernel_rfl
theorem sz92 : (Try.prog.info? 92).map (·.size) = some 1 := by kernel_rfl
theorem z92 : (Try.prog.info? 92).bind (·.zero) = some (.slice none 0 0) := by kernel_rfl
theorem one92 : oneB Try.prog 92 = true := by kernel_rfl
theorem sl92 : sliceB Try.prog 92 9 1 16 = true := by kernel_rfl
theorem sz93 : (Try.prog.info? 93).map (·.size) = some 1 := by kernel_rfl
theorem z93 : (Try.prog.info? 93).bind (·.zero) = some .nilFunc := by kernel_rfl
theorem one93 : oneB Try.prog 93 = true := by kernel_rfl
theorem sz94 : (Try.prog.info? 94).map (·.size) = some 1 := by kernel_rfl
theorem z94 : (Try.prog.info? 94).bind (·.zero) = some (.tuple #[(.slice none 0 0), (.int .i64 0)]) := by kernel_rfl
theorem one94 : oneB Try.prog 94 = true := by kernel_rfl
theorem sz95 : (Try.prog.info? 95).map (·.size) = some 1 := by kernel_rfl
theorem z95 : (Try.prog.info? 95).bind (·.zero) = some .nilFunc := by kernel_rfl
theorem one95 : oneB Try.prog 95 = true := by kernel_rfl
theorem sz96 : (Try.prog.info? 96).map (·.size) = some 1 := by kernel_rfl
theorem z96 : (Try.prog.info? 96).bind (·.zero) = some .nilFunc := by kernel_rfl
theorem one96 : oneB Try.prog 96 = true := by kernel_rfl
theorem sz97 : (Try.prog.info? 97).map (·.size) = some 1 := by kernel_rfl
theorem z97 : (Try.prog.info? 97).bind (·.zero) = some .nilFunc := by kernel_rfl
theorem one97 : oneB Try.prog 97 = true := by kernel_rfl
theorem sz98 : (Try.prog.info? 98).map (·.size) = some 1 := by kernel_rfl
theorem z98 : (Try.prog.info? 98).bind (·.zero) = some .nilFunc := by kernel_rfl
theorem one98 : oneB Try.prog 98 = true := by kernel_rfl
theorem sz99 : (Try.prog.info? 99).map (·.size) = some 1 := by kernel_rfl
theorem z99 : (Try.prog.info? 99).bind (·.zero) = some .nilFunc := by kernel_rfl
theorem one99 : oneB Try.prog 99 = true := by kernel_rfl
theorem sz100 : (Try.prog.info? 100).map (·.size) = some 1 := by kernel_rfl
theorem z100 : (Try.prog.info? 100).bind (·.zero) = some (.tuple #[(.slice none 0 0), (.slice none 0 0)]) := by kernel_rfl
theorem one100 : oneB Try.prog 100 = true := by kernel_rfl
theorem sz101 : (Try.prog.info? 101).map (·.size) = some 1 := by kernel_rfl
theorem z101 : (Try.prog.info? 101).bind (·.zero) = some .nilFunc := by kernel_rfl
theorem one101 : oneB Try.prog 101 = true := by kernel_rfl
theorem sz102 : (Try.prog.info? 102).map (·.size) = some 1 := by kernel_rfl
theorem z102 : (Try.prog.info? 102).bind (·.zero) = some .nilFunc := by kernel_rfl
theorem one102 : oneB Try.prog 102 = true := by kernel_rfl
theorem sz103 : (Try.prog.info? 103).map (·.size) = some 1 := by kernel_rfl
theorem z103 : (Try.prog.info? 103).bind (·.zero) = some .nilFunc := by kernel_rfl
theorem one103 : oneB Try.prog 103 = true := by kernel_rfl
theorem sz104 : (Try.prog.info? 104).map (·.size) = some 1 := by kernel_rfl
theorem z104 : (Try.prog.info? 104).bind (·.zero) = some .nilFunc := by kernel_rfl
theorem one104 : oneB Try.prog 104 = true := by kernel_rfl
theorem sz105 : (Try.prog.info? 105).map (·.size) = some 1 := by kernel_rfl
theorem z105 : (Try.prog.info? 105).bind (·.zero) = some (.slice none 0 0) := by kernel_rfl
theorem one105 : oneB Try.prog 105 = true := by kernel_rfl
theorem sl105 : sliceB Try.prog 105 111 5 72 = true := by kernel_rfl
theorem sz106 : (Try.prog.info? 106).map (·.size) = some 6 := by kernel_rfl
theorem z106 : (Try.prog.info? 106).bind (·.zero) = some (.agg #[(.int .u64 0), (.slice none 0 0), (.int .i64 0), (.slice none 0 0), (.int .i64 0), (.bool false)]) := by kernel_rfl
theorem agg106 : aggB Try.prog 106 6 = true := by kernel_rfl
theorem pl106 : structPlaces Try.prog 106 = some [(0, 1), (1, 1), (2, 1), (3, 1), (4, 1), (5, 1)] := by kernel_rfl
theorem fl106_0 : fieldB Try.prog 106 0 0 = true := by kernel_rfl
theorem fl106_1 : fieldB Try.prog 106 1 1 = true := by kernel_rfl
theorem fl106_2 : fieldB Try.prog 106 2 2 = true := by kernel_rfl
theorem fl106_3 : fieldB Try.prog 106 3 3 = true := by kernel_rfl
theorem fl106_4 : fieldB Try.prog 106 4 4 = true := by kernel_rfl
theorem fl106_5 : fieldB Try.prog 106 5 5 = true := by kernel_rfl
theorem sz107 : (Try.prog.info? 107).map (·.size) = some 6 := by kernel_rfl
theorem z107 : (Try.prog.info? 107).bind (·.zero) = some (.agg #[(.int .u64 0), (.slice none 0 0), (.int .i64 0), (.slice none 0 0), (.int .i64 0), (.bool false)]) := by kernel_rfl
theorem agg107 : aggB Try.prog 107 6 = true := by kernel_rfl
theorem pl107 : structPlaces Try.prog 107 = some [(0, 1), (1, 1), (2, 1), (3, 1), (4, 1), (5, 1)] := by kernel_rfl
theorem fl107_0 : fieldB Try.prog 107 0 0 = true := by kernel_rfl
theorem fl107_1 : fieldB Try.prog 107 1 1 = true := by kernel_rfl
theorem fl107_2 : fieldB Try.prog 107 2 2 = true := by kernel_rfl
theorem fl107_3 : fieldB Try.prog 107 3 3 = true := by kernel_rfl
theorem fl107_4 : fieldB Try.prog 107 4 4 = true := by kernel_rfl
theorem fl107_5 : fieldB Try.prog 107 5 5 = true := by kernel_rfl
theorem sz108 : (Try.prog.info? 108).map (·.size) = some 1 := by kernel_rfl
theorem z108 : (Try.prog.info? 108).bind (·.zero) = some .nilFunc := by kernel_rfl
theorem one108 : oneB Try.prog 108 = true := by kernel_rfl
theorem sz109 : (Try.prog.info? 109).map (·.size) = some 1 := by kernel_rfl
theorem z109 : (Try.prog.info? 109).bind (·.zero) = some (.slice none 0 0) := by kernel_rfl
theorem one109 : oneB Try.prog 109 = true := by kernel_rfl
theorem sl109 : sliceB Try.prog 109 3 1 8 = true := by kernel_rfl
theorem sz110 : (Try.prog.info? 110).map (·.size) = some 5 := by kernel_rfl
theorem z110 : (Try.prog.info? 110).bind (·.zero) = some (.agg #[(.int .i64 0), (.slice none 0 0), (.int .u64 0), (.int .i64 0), (.slice none 0 0)]) := by kernel_rfl
theorem agg110 : aggB Try.prog 110 5 = true := by kernel_rfl
theorem pl110 : structPlaces Try.prog 110 = some [(0, 1), (1, 1), (2, 1), (3, 1), (4, 1)] := by kernel_rfl
theorem fl110_0 : fieldB Try.prog 110 0 0 = true := by kernel_rfl
theorem fl110_1 : fieldB Try.prog 110 1 1 = true := by kernel_rfl
theorem fl110_2 : fieldB Try.prog 110 2 2 = true := by kernel_rfl
theorem fl110_3 : fieldB Try.prog 110 3 3 = true := by kernel_rfl
theorem fl110_4 : fieldB Try.prog 110 4 4 = true := by kernel_rfl
theorem sz111 : (Try.prog.info? 111).map (·.size) = some 5 := by kernel_rfl
theorem z111 : (Try.prog.info? 111).bind (·.zero) = some (.agg #[(.int .i64 0), (.slice none 0 0), (.int .u64 0), (.int .i64 0), (.slice none 0 0)]) := by kernel_rfl
theorem agg111 : aggB Try.prog 111 5 = true := by kernel_rfl
theorem pl111 : structPlaces Try.prog 111 = some [(0, 1), (1, 1), (2, 1), (3, 1), (4, 1)] := by kernel_rfl
theorem fl111_0 : fieldB Try.prog 111 0 0 = true := by kernel_rfl
theorem fl111_1 : fieldB Try.prog 111 1 1 = true := by kernel_rfl
theorem fl111_2 : fieldB Try.prog 111 2 2 = true := by kernel_rfl
theorem fl111_3 : fieldB Try.prog 111 3 3 = true := by kernel_rfl
theorem fl111_4 : fieldB Try.prog 111 4 4 = true := by kernel_rfl
theorem sz112 : (Try.prog.info? 112).map (·.size) = some 1 := by kernel_rfl
theorem z112 : (Try.prog.info? 112).bind (·.zero) = some .nilFunc := by kernel_rfl
theorem one112 : oneB Try.prog 112 = true := by kernel_rfl
theorem sz113 : (Try.prog.info? 113).map (·.size) = some 1 := by kernel_rfl
theorem z113 : (Try.prog.info? 113).bind (·.zero) = some .nilFunc := by kernel_rfl
theorem one113 : oneB Try.prog 113 = true := by kernel_rfl
theorem sz114 : (Try.prog.info? 114).map (·.size) = some 1 := by kernel_rfl
theorem z114 : (Try.prog.info? 114).bind (·.zero) = some .nilFunc := by kernel_rfl
theorem one114 : oneB Try.prog 114 = true := by kernel_rfl
theorem sz115 : (Try.prog.info? 115).map (·.size) = some 1 := by kernel_rfl
theorem z115 : (Try.prog.info? 115).bind (·.zero) = some .nilFunc := by kernel_rfl
theorem one115 : oneB Try.prog 115 = true := by kernel_rfl
theorem sz116 : (Try.prog.info? 116).map (·.size) = some 1 := by kernel_rfl
theorem z116 : (Try.prog.info? 116).bind (·.zero) = some .nilFunc := by kernel_rfl
theorem one116 : oneB Try.prog 116 = true := by kernel_rfl
theorem sz117 : (Try.prog.info? 117).map (·.size) = some 1 := by kernel_rfl
theorem z117 : (Try.prog.info? 117).bind (·.zero) = some .nilFunc := by kernel_rfl
theorem one117 : oneB Try.prog 117 = true := by kernel_rfl
theorem sz118 : (Try.prog.info? 118).map (·.size) = some 1 := by kernel_rfl
theorem z118 : (Try.prog.info? 118).bind (·.zero) = some .nilFunc := by kernel_rfl
theorem one118 : oneB Try.prog 118 = true := by kernel_rfl
theorem sz119 : (Try.prog.info? 119).map (·.size) = some 1 := by kernel_rfl
theorem z119 : (Try.prog.info? 119).bind (·.zero) = some (.tuple #[(.pointer none), (.agg #[(.int .u64 0), (.slice none 0 0), (.int .i64 0), (.slice none 0 0), (.int .i64 0), (.bool false)]), (.bool false)]) := by kernel_rfl
theorem one119 : oneB Try.prog 119 = true := by kernel_rfl
theorem sz120 : (Try.prog.info? 120).map (·.size) = some 1 := by kernel_rfl
theorem z120 : (Try.prog.info? 120).bind (·.zero) = some .nilFunc := by kernel_rfl
theorem one120 : oneB Try.prog 120 = true := by kernel_rfl
theorem sz121 : (Try.prog.info? 121).map (·.size) = some 1 := by kernel_rfl
theorem z121 : (Try.prog.info? 121).bind (·.zero) = some .nilFunc := by kernel_rfl
theorem one121 : oneB Try.prog 121 = true := by kernel_rfl
theorem sz122 : (Try.prog.info? 122).map (·.size) = some 1 := by kernel_rfl
theorem z122 : (Try.prog.info? 122).bind (·.zero) = some .nilFunc := by kernel_rfl
theorem one122 : oneB Try.prog 122 = true := by kernel_rfl
theorem sz123 : (Try.prog.info? 123).map (·.size) = some 1 := by kernel_rfl
theorem z123 : (Try.prog.info? 123).bind (·.zero) = some .nilFunc := by kernel_rfl
theorem one123 : oneB Try.prog 123 = true := by kernel_rfl
theorem sz124 : (Try.prog.info? 124).map (·.size) = some 2 := by kernel_rfl
theorem z124 : (Try.prog.info? 124).bind (·.zero) = some (.agg #[(.int .u64 0), (.slice none 0 0)]) := by kernel_rfl
theorem agg124 : aggB Try.prog 124 2 = true := by kernel_rfl
theorem pl124 : structPlaces Try.prog 124 = some [(0, 1), (1, 1)] := by kernel_rfl
theorem fl124_0 : fieldB Try.prog 124 0 0 = true := by kernel_rfl
theorem fl124_1 : fieldB Try.prog 124 1 1 = true := by kernel_rfl
theorem sz125 : (Try.prog.info? 125).map (·.size) = some 2 := by kernel_rfl
theorem z125 : (Try.prog.info? 125).bind (·.zero) = some (.agg #[(.int .u64 0), (.slice none 0 0)]) := by kernel_rfl
theorem agg125 : aggB Try.prog 125 2 = true := by kernel_rfl
theorem pl125 : structPlaces Try.prog 125 = some [(0, 1), (1, 1)] := by kernel_rfl
theorem fl125_0 : fieldB Try.prog 125 0 0 = true := by kernel_rfl
theorem fl125_1 : fieldB Try.prog 125 1 1 = true := by kernel_rfl
theorem sz126 : (Try.prog.info? 126).map (·.size) = some 1 := by kernel_rfl
theorem z126 : (Try.prog.info? 126).bind (·.zero) = some .nilFunc := by kernel_rfl
theorem one126 : oneB Try.prog 126 = true := by kernel_rfl
theorem sz127 : (Try.prog.info? 127).map (·.size) = some 1 := by kernel_rfl
theorem z127 : (Try.prog.info? 127).bind (·.zero) = some .nilFunc := by kernel_rfl
theorem one127 : oneB Try.prog 127 = true := by kernel_rfl
theorem sz128 : (Try.prog.info? 128).map (·.size) = some 1 := by kernel_rfl
theorem z128 : (Try.prog.info? 128).bind (·.zero) = some .nilFunc := by kernel_rfl
theorem one128 : oneB Try.prog 128 = true := by kernel_rfl
theorem sz129 : (Try.prog.info? 129).map (·.size) = some 1 := by kernel_rfl
theorem z129 : (Try.prog.info? 129).bind (·.zero) = some .nilFunc := by kernel_rfl
theorem one129 : oneB Try.prog 129 = true := by kernel_rfl
theorem sz130 : (Try.prog.info? 130).map (·.size) = some 2 := by kernel_rfl
theorem z130 : (Try.prog.info? 130).bind (·.zero) = some (.agg #[(.int .u64 0), (.slice none 0 0)]) := by kernel_rfl
theorem agg130 : aggB Try.prog 130 2 = true := by kernel_rfl
theorem pl130 : structPlaces Try.prog 130 = some [(0, 1), (1, 1)] := by kernel_rfl
theorem fl130_0 : fieldB Try.prog 130 0 0 = true := by kernel_rfl
theorem fl130_1 : fieldB Try.prog 130 1 1 = true := by kernel_rfl
theorem sz131 : (Try.prog.info? 131).map (·.size) = some 1 := by kernel_rfl
theorem z131 : (Try.prog.info? 131).bind (·.zero) = some .nilFunc := by kernel_rfl
theorem one131 : oneB Try.prog 131 = true := by kernel_rfl
theorem sz132 : (Try.prog.info? 132).map (·.size) = some 1 := by kernel_rfl
theorem z132 : (Try.prog.info? 132).bind (·.zero) = some (.tuple #[(.slice none 0 0), (.bool false)]) := by kernel_rfl
theorem one132 : oneB Try.prog 132 = true := by kernel_rfl
theorem sz133 : (Try.prog.info? 133).map (·.size) = some 1 := by kernel_rfl
theorem z133 : (Try.prog.info? 133).bind (·.zero) = some .nilFunc := by kernel_rfl
theorem one133 : oneB Try.prog 133 = true := by kernel_rfl
theorem sz134 : (Try.prog.info? 134).map (·.size) = some 1 := by kernel_rfl
theorem z134 : (Try.prog.info? 134).bind (·.zero) = some (.tuple #[(.slice none 0 0), (.bool false)]) := by kernel_rfl
theorem one134 : oneB Try.prog 134 = true := by kernel_rfl
theorem sz135 : (Try.prog.info? 135).map (·.size) = some 1 := by kernel_rfl
theorem z135 : (Try.prog.info? 135).bind (·.zero) = some .nilFunc := by kernel_rfl
theorem one135 : oneB Try.prog 135 = true := by kernel_rfl
theorem sz136 : (Try.prog.info? 136).map (·.size) = some 1 := by kernel_rfl
theorem z136 : (Try.prog.info? 136).bind (·.zero) = some .nilFunc := by kernel_rfl
theorem one136 : oneB Try.prog 136 = true := by kernel_rfl
theorem sz137 : (Try.prog.info? 137).map (·.size) = some 1 := by kernel_rfl
theorem z137 : (Try.prog.info? 137).bind (·.zero) = some .nilFunc := by kernel_rfl
theorem one137 : oneB Try.prog 137 = true := by kernel_rfl
theorem sz138 : (Try.prog.info? 138).map (·.size) = some 1 := by kernel_rfl
theorem z138 : (Try.prog.info? 138).bind (·.zero) = some .nilFunc := by kernel_rfl
theorem one138 : oneB Try.prog 138 = true := by kernel_rfl
theorem sz139 : (Try.prog.info? 139).map (·.size) = some 1 := by kernel_rfl
theorem z139 : (Try.prog.info? 139).bind (·.zero) = some (.map none) := by kernel_rfl
theorem one139 : oneB Try.prog 139 = true := by kernel_rfl
theorem map139 : Try.prog.underlying 139 = some (.map 9 161) := by kernel_rfl
theorem sz140 : (Try.prog.info? 140).map (·.size) = some 5 := by kernel_rfl
theorem z140 : (Try.prog.info? 140).bind (·.zero) = some (.agg #[(.map none), (.int .i64 0), (.bool false), (.int .i64 0), (.bool false)]) := by kernel_rfl
theorem agg140 : aggB Try.prog 140 5 = true := by kernel_rfl
theorem pl140 : structPlaces Try.prog 140 = some [(0, 1), (1, 1), (2, 1), (3, 1), (4, 1)] := by kernel_rfl
theorem fl140_0 : fieldB Try.prog 140 0 0 = true := by kernel_rfl
theorem fl140_1 : fieldB Try.prog 140 1 1 = true := by kernel_rfl
theorem fl140_2 : fieldB Try.prog 140 2 2 = true := by kernel_rfl
theorem fl140_3 : fieldB Try.prog 140 3 3 = true := by kernel_rfl
theorem fl140_4 : fieldB Try.prog 140 4 4 = true := by kernel_rfl
theorem sz141 : (Try.prog.info? 141).map (·.size) = some 5 := by kernel_rfl
theorem z141 : (Try.prog.info? 141).bind (·.zero) = some (.agg #[(.map none), (.int .i64 0), (.bool false), (.int .i64 0), (.bool false)]) := by kernel_rfl
theorem agg141 : aggB Try.prog 141 5 = true := by kernel_rfl
theorem pl141 : structPlaces Try.prog 141 = some [(0, 1), (1, 1), (2, 1), (3, 1), (4, 1)] := by kernel_rfl
theorem fl141_0 : fieldB Try.prog 141 0 0 = true := by kernel_rfl
theorem fl141_1 : fieldB Try.prog 141 1 1 = true := by kernel_rfl
theorem fl141_2 : fieldB Try.prog 141 2 2 = true := by kernel_rfl
theorem fl141_3 : fieldB Try.prog 141 3 3 = true := by kernel_rfl
theorem fl141_4 : fieldB Try.prog 141 4 4 = true := by kernel_rfl
theorem sz142 : (Try.prog.info? 142).map (·.size) = some 2 := by kernel_rfl
theorem z142 : (Try.prog.info? 142).bind (·.zero) = some (.agg #[(.pointer none), (.string ⟨#[]⟩)]) := by kernel_rfl
theorem agg142 : aggB Try.prog 142 2 = true := by kernel_rfl
theorem pl142 : structPlaces Try.prog 142 = some [(0, 1), (1, 1)] := by kernel_rfl
theorem fl142_0 : fieldB Try.prog 142 0 0 = true := by kernel_rfl
theorem fl142_1 : fieldB Try.prog 142 1 1 = true := by kernel_rfl
theorem sz143 : (Try.prog.info? 143).map (·.size) = some 2 := by kernel_rfl
theorem z143 : (Try.prog.info? 143).bind (·.zero) = some (.agg #[(.pointer none), (.string ⟨#[]⟩)]) := by kernel_rfl
theorem agg143 : aggB Try.prog 143 2 = true := by kernel_rfl
theorem pl143 : structPlaces Try.prog 143 = some [(0, 1), (1, 1)] := by kernel_rfl
theorem fl143_0 : fieldB Try.prog 143 0 0 = true := by kernel_rfl
theorem fl143_1 : fieldB Try.prog 143 1 1 = true := by kernel_rfl
theorem sz144 : (Try.prog.info? 144).map (·.size) = some 1 := by kernel_rfl
theorem z144 : (Try.prog.info? 144).bind (·.zero) = some (.slice none 0 0) := by kernel_rfl
theorem one144 : oneB Try.prog 144 = true := by kernel_rfl
theorem sl144 : sliceB Try.prog 144 151 1 8 = true := by kernel_rfl
theorem sz145 : (Try.prog.info? 145).map (·.size) = some 7 := by kernel_rfl
theorem z145 : (Try.prog.info? 145).bind (·.zero) = some (.agg #[(.pointer none), (.string ⟨#[]⟩), (.int .i64 0), (.slice none 0 0), (.int .u64 0), (.int .i64 0), (.bool false)]) := by kernel_rfl
theorem agg145 : aggB Try.prog 145 7 = true := by kernel_rfl
theorem pl145 : structPlaces Try.prog 145 = some [(0, 2), (2, 1), (3, 1), (4, 1), (5, 1), (6, 1)] := by kernel_rfl
theorem fl145_0 : fieldB Try.prog 145 0 0 = true := by kernel_rfl
theorem fl145_1 : fieldB Try.prog 145 1 2 = true := by kernel_rfl
theorem fl145_2 : fieldB Try.prog 145 2 3 = true := by kernel_rfl
theorem fl145_3 : fieldB Try.prog 145 3 4 = true := by kernel_rfl
theorem fl145_4 : fieldB Try.prog 145 4 5 = true := by kernel_rfl
theorem fl145_5 : fieldB Try.prog 145 5 6 = true := by kernel_rfl
theorem sz146 : (Try.prog.info? 146).map (·.size) = some 7 := by kernel_rfl
theorem z146 : (Try.prog.info? 146).bind (·.zero) = some (.agg #[(.pointer none), (.string ⟨#[]⟩), (.int .i64 0), (.slice none 0 0), (.int .u64 0), (.int .i64 0), (.bool false)]) := by kernel_rfl
theorem agg146 : aggB Try.prog 146 7 = true := by kernel_rfl
theorem pl146 : structPlaces Try.prog 146 = some [(0, 2), (2, 1), (3, 1), (4, 1), (5, 1), (6, 1)] := by kernel_rfl
theorem fl146_0 : fieldB Try.prog 146 0 0 = true := by kernel_rfl
theorem fl146_1 : fieldB Try.prog 146 1 2 = true := by kernel_rfl
theorem fl146_2 : fieldB Try.prog 146 2 3 = true := by kernel_rfl
theorem fl146_3 : fieldB Try.prog 146 3 4 = true := by kernel_rfl
theorem fl146_4 : fieldB Try.prog 146 4 5 = true := by kernel_rfl
theorem fl146_5 : fieldB Try.prog 146 5 6 = true := by kernel_rfl
theorem sz147 : (Try.prog.info? 147).map (·.size) = some 1 := by kernel_rfl
theorem z147 : (Try.prog.info? 147).bind (·.zero) = some (.tuple #[(.slice none 0 0), (.int .i64 0)]) := by kernel_rfl
theorem one147 : oneB Try.prog 147 = true := by kernel_rfl
theorem sz148 : (Try.prog.info? 148).map (·.size) = some 1 := by kernel_rfl
theorem z148 : (Try.prog.info? 148).bind (·.zero) = some .nilFunc := by kernel_rfl
theorem one148 : oneB Try.prog 148 = true := by kernel_rfl
theorem sz149 : (Try.prog.info? 149).map (·.size) = some 1 := by kernel_rfl
theorem z149 : (Try.prog.info? 149).bind (·.zero) = some .nilFunc := by kernel_rfl
theorem one149 : oneB Try.prog 149 = true := by kernel_rfl
theorem sz150 : (Try.prog.info? 150).map (·.size) = some 1 := by kernel_rfl
theorem z150 : (Try.prog.info? 150).bind (·.zero) = some (.agg #[(.int .u64 0)]) := by kernel_rfl
theorem agg150 : aggB Try.prog 150 1 = true := by kernel_rfl
theorem pl150 : structPlaces Try.prog 150 = some [(0, 1)] := by kernel_rfl
theorem fl150_0 : fieldB Try.prog 150 0 0 = true := by kernel_rfl
theorem sz151 : (Try.prog.info? 151).map (·.size) = some 1 := by kernel_rfl
theorem z151 : (Try.prog.info? 151).bind (·.zero) = some (.agg #[(.int .u64 0)]) := by kernel_rfl
theorem agg151 : aggB Try.prog 151 1 = true := by kernel_rfl
theorem pl151 : structPlaces Try.prog 151 = some [(0, 1)] := by kernel_rfl
theorem fl151_0 : fieldB Try.prog 151 0 0 = true := by kernel_rfl
theorem sz152 : (Try.prog.info? 152).map (·.size) = some 1 := by kernel_rfl
theorem z152 : (Try.prog.info? 152).bind (·.zero) = some .nilFunc := by kernel_rfl
theorem one152 : oneB Try.prog 152 = true := by kernel_rfl
theorem sz153 : (Try.prog.info? 153).map (·.size) = some 1 := by kernel_rfl
theorem z153 : (Try.prog.info? 153).bind (·.zero) = some .nilFunc := by kernel_rfl
theorem one153 : oneB Try.prog 153 = true := by kernel_rfl
theorem sz154 : (Try.prog.info? 154).map (·.size) = some 1 := by kernel_rfl
theorem z154 : (Try.prog.info? 154).bind (·.zero) = some .nilFunc := by kernel_rfl
theorem one154 : oneB Try.prog 154 = true := by kernel_rfl
theorem sz155 : (Try.prog.info? 155).map (·.size) = some 1 := by kernel_rfl
theorem z155 : (Try.prog.info? 155).bind (·.zero) = some .nilFunc := by kernel_rfl
theorem one155 : oneB Try.prog 155 = true := by kernel_rfl
theorem sz156 : (Try.prog.info? 156).map (·.size) = some 1 := by kernel_rfl
theorem z156 : (Try.prog.info? 156).bind (·.zero) = some .nilFunc := by kernel_rfl
theorem one156 : oneB Try.prog 156 = true := by kernel_rfl
theorem sz157 : (Try.prog.info? 157).map (·.size) = some 1 := by kernel_rfl
theorem z157 : (Try.prog.info? 157).bind (·.zero) = some .nilFunc := by kernel_rfl
theorem one157 : oneB Try.prog 157 = true := by kernel_rfl
theorem sz158 : (Try.prog.info? 158).map (·.size) = some 1 := by kernel_rfl
theorem z158 : (Try.prog.info? 158).bind (·.zero) = some .nilFunc := by kernel_rfl
theorem one158 : oneB Try.prog 158 = true := by kernel_rfl
theorem sz159 : (Try.prog.info? 159).map (·.size) = some 1 := by kernel_rfl
theorem z159 : (Try.prog.info? 159).bind (·.zero) = some .nilFunc := by kernel_rfl
theorem one159 : oneB Try.prog 159 = true := by kernel_rfl
theorem sz160 : (Try.prog.info? 160).map (·.size) = some 2 := by kernel_rfl
theorem z160 : (Try.prog.info? 160).bind (·.zero) = some (.agg #[(.slice none 0 0), (.int .i64 0)]) := by kernel_rfl
theorem agg160 : aggB Try.prog 160 2 = true := by kernel_rfl
theorem pl160 : structPlaces Try.prog 160 = some [(0, 1), (1, 1)] := by kernel_rfl
theorem fl160_0 : fieldB Try.prog 160 0 0 = true := by kernel_rfl
theorem fl160_1 : fieldB Try.prog 160 1 1 = true := by kernel_rfl
theorem sz161 : (Try.prog.info? 161).map (·.size) = some 2 := by kernel_rfl
theorem z161 : (Try.prog.info? 161).bind (·.zero) = some (.agg #[(.slice none 0 0), (.int .i64 0)]) := by kernel_rfl
theorem agg161 : aggB Try.prog 161 2 = true := by kernel_rfl
theorem pl161 : structPlaces Try.prog 161 = some [(0, 1), (1, 1)] := by kernel_rfl
theorem fl161_0 : fieldB Try.prog 161 0 0 = true := by kernel_rfl
theorem fl161_1 : fieldB Try.prog 161 1 1 = true := by kernel_rfl
theorem sz162 : (Try.prog.info? 162).map (·.size) = some 1 := by kernel_rfl
theorem z162 : (Try.prog.info? 162).bind (·.zero) = some (.tuple #[(.bool false), (.int .i64 0)]) := by kernel_rfl
theorem one162 : oneB Try.prog 162 = true := by kernel_rfl
theorem sz163 : (Try.prog.info? 163).map (·.size) = some 1 := by kernel_rfl
theorem z163 : (Try.prog.info? 163).bind (·.zero) = some .nilFunc := by kernel_rfl
theorem one163 : oneB Try.prog 163 = true := by kernel_rfl
theorem sz164 : (Try.prog.info? 164).map (·.size) = some 1 := by kernel_rfl
theorem z164 : (Try.prog.info? 164).bind (·.zero) = some .nilFunc := by kernel_rfl
theorem one164 : oneB Try.prog 164 = true := by kernel_rfl
theorem sz165 : (Try.prog.info? 165).map (·.size) = some 1 := by kernel_rfl
theorem z165 : (Try.prog.info? 165).bind (·.zero) = some .nilFunc := by kernel_rfl
theorem one165 : oneB Try.prog 165 = true := by kernel_rfl
theorem sz166 : (Try.prog.info? 166).map (·.size) = some 1 := by kernel_rfl
theorem z166 : (Try.prog.info? 166).bind (·.zero) = some .nilFunc := by kernel_rfl
theorem one166 : oneB Try.prog 166 = true := by kernel_rfl
theorem sz167 : (Try.prog.info? 167).map (·.size) = some 1 := by kernel_rfl
theorem z167 : (Try.prog.info? 167).bind (·.zero) = some .nilFunc := by kernel_rfl
theorem one167 : oneB Try.prog 167 = true := by kernel_rfl
theorem sz168 : (Try.prog.info? 168).map (·.size) = some 1 := by kernel_rfl
theorem z168 : (Try.prog.info? 168).bind (·.zero) = some .nilFunc := by kernel_rfl
theorem one168 : oneB Try.prog 168 = true := by kernel_rfl
theorem sz169 : (Try.prog.info? 169).map (·.size) = some 1 := by kernel_rfl
theorem z169 : (Try.prog.info? 169).bind (·.zero) = some .nilFunc := by kernel_rfl
theorem one169 : oneB Try.prog 169 = true := by kernel_rfl
theorem sz170 : (Try.prog.info? 170).map (·.size) = some 1 := by kernel_rfl
theorem z170 : (Try.prog.info? 170).bind (·.zero) = some .nilFunc := by kernel_rfl
theorem one170 : oneB Try.prog 170 = true := by kernel_rfl
theorem sz171 : (Try.prog.info? 171).map (·.size) = some 1 := by kernel_rfl
theorem z171 : (Try.prog.info? 171).bind (·.zero) = some .nilFunc := by kernel_rfl
theorem one171 : oneB Try.prog 171 = true := by kernel_rfl
theorem sz172 : (Try.prog.info? 172).map (·.size) = some 2 := by kernel_rfl
theorem z172 : (Try.prog.info? 172).bind (·.zero) = some (.agg #[(.int .u64 0), (.int .i64 0)]) := by kernel_rfl
theorem agg172 : aggB Try.prog 172 2 = true := by kernel_rfl
theorem pl172 : structPlaces Try.prog 172 = some [(0, 1), (1, 1)] := by kernel_rfl
theorem fl172_0 : fieldB Try.prog 172 0 0 = true := by kernel_rfl
theorem fl172_1 : fieldB Try.prog 172 1 1 = true := by kernel_rfl
theorem sz173 : (Try.prog.info? 173).map (·.size) = some 2 := by kernel_rfl
theorem z173 : (Try.prog.info? 173).bind (·.zero) = some (.agg #[(.int .u64 0), (.int .i64 0)]) := by kernel_rfl
theorem agg173 : aggB Try.prog 173 2 = true := by kernel_rfl
theorem pl173 : structPlaces Try.prog 173 = some [(0, 1), (1, 1)] := by kernel_rfl
theorem fl173_0 : fieldB Try.prog 173 0 0 = true := by kernel_rfl
theorem fl173_1 : fieldB Try.prog 173 1 1 = true := by kernel_rfl
theorem sz174 : (Try.prog.info? 174).map (·.size) = some 1 := by kernel_rfl
theorem z174 : (Try.prog.info? 174).bind (·.zero) = some (.tuple #[(.agg #[(.int .u64 0), (.slice none 0 0)]), (.bool false)]) := by kernel_rfl
theorem one174 : oneB Try.prog 174 = true := by kernel_rfl
theorem sz175 : (Try.prog.info? 175).map (·.size) = some 1 := by kernel_rfl
theorem z175 : (Try.prog.info? 175).bind (·.zero) = some .nilFunc := by kernel_rfl
theorem one175 : oneB Try.prog 175 = true := by kernel_rfl
theorem sz176 : (Try.prog.info? 176).map (·.size) = some 4 := by kernel_rfl
theorem z176 : (Try.prog.info? 176).bind (·.zero) = some (.agg #[(.int .u64 0), (.int .u64 0), (.slice none 0 0), (.int .u64 0)]) := by kernel_rfl
theorem agg176 : aggB Try.prog 176 4 = true := by kernel_rfl
theorem pl176 : structPlaces Try.prog 176 = some [(0, 1), (1, 2), (3, 1)] := by kernel_rfl
theorem fl176_0 : fieldB Try.prog 176 0 0 = true := by kernel_rfl
theorem fl176_1 : fieldB Try.prog 176 1 1 = true := by kernel_rfl
theorem fl176_2 : fieldB Try.prog 176 2 3 = true := by kernel_rfl
theorem sz177 : (Try.prog.info? 177).map (·.size) = some 4 := by kernel_rfl
theorem z177 : (Try.prog.info? 177).bind (·.zero) = some (.agg #[(.int .u64 0), (.int .u64 0), (.slice none 0 0), (.int .u64 0)]) := by kernel_rfl
theorem agg177 : aggB Try.prog 177 4 = true := by kernel_rfl
theorem pl177 : structPlaces Try.prog 177 = some [(0, 1), (1, 2), (3, 1)] := by kernel_rfl
theorem fl177_0 : fieldB Try.prog 177 0 0 = true := by kernel_rfl
theorem fl177_1 : fieldB Try.prog 177 1 1 = true := by kernel_rfl
theorem fl177_2 : fieldB Try.prog 177 2 3 = true := by kernel_rfl
theorem sz178 : (Try.prog.info? 178).map (·.size) = some 1 := by kernel_rfl
theorem z178 : (Try.prog.info? 178).bind (·.zero) = some (.tuple #[(.agg #[(.int .u64 0), (.int .u64 0), (.slice none 0 0), (.int .u64 0)]), (.bool false)]) := by kernel_rfl
theorem one178 : oneB Try.prog 178 = true := by kernel_rfl
theorem sz179 : (Try.prog.info? 179).map (·.size) = some 1 := by kernel_rfl
theorem z179 : (Try.prog.info? 179).bind (·.zero) = some .nilFunc := by kernel_rfl
theorem one179 : oneB Try.prog 179 = true := by kernel_rfl
theorem sz180 : (Try.prog.info? 180).map (·.size) = some 1 := by kernel_rfl
theorem z180 : (Try.prog.info? 180).bind (·.zero) = some .nilFunc := by kernel_rfl
theorem one180 : oneB Try.prog 180 = true := by kernel_rfl
theorem sz181 : (Try.prog.info? 181).map (·.size) = some 1 := by kernel_rfl
theorem z181 : (Try.prog.info? 181).bind (·.zero) = some (.tuple #[(.slice none 0 0), (.int .i64 0)]) := by kernel_rfl
theorem one181 : oneB Try.prog 181 = true := by kernel_rfl
theorem sz182 : (Try.prog.info? 182).map (·.size) = some 1 := by kernel_rfl
theorem z182 : (Try.prog.info? 182).bind (·.zero) = some .nilFunc := by kernel_rfl
theorem one182 : oneB Try.prog 182 = true := by kernel_rfl
theorem sz183 : (Try.prog.info? 183).map (·.size) = some 1 := by kernel_rfl
theorem z183 : (Try.prog.info? 183).bind (·.zero) = some .nilFunc := by kernel_rfl
theorem one183 : oneB Try.prog 183 = true := by kernel_rfl
theorem sz184 : (Try.prog.info? 184).map (·.size) = some 1 := by kernel_rfl
theorem z184 : (Try.prog.info? 184).bind (·.zero) = some .nilFunc := by kernel_rfl
theorem one184 : oneB Try.prog 184 = true := by kernel_rfl
theorem sz185 : (Try.prog.info? 185).map (·.size) = some 1 := by kernel_rfl
theorem z185 : (Try.prog.info? 185).bind (·.zero) = some (.int .u32 0) := by kernel_rfl
theorem one185 : oneB Try.prog 185 = true := by kernel_rfl
theorem int185 : Try.prog.underlying 185 = some (.int .u32) := by kernel_rfl
theorem sz186 : (Try.prog.info? 186).map (·.size) = some 1 := by kernel_rfl
theorem z186 : (Try.prog.info? 186).bind (·.zero) = some .nilFunc := by kernel_rfl
theorem one186 : oneB Try.prog 186 = true := by kernel_rfl
theorem sz187 : (Try.prog.info? 187).map (·.size) = some 1 := by kernel_rfl
theorem z187 : (Try.prog.info? 187).bind (·.zero) = some .nilFunc := by kernel_rfl
theorem one187 : oneB Try.prog 187 = true := by kernel_rfl
theorem sz188 : (Try.prog.info? 188).map (·.size) = some 1 := by kernel_rfl
theorem z188 : (Try.prog.info? 188).bind (·.zero) = some .nilFunc := by kernel_rfl
theorem one188 : oneB Try.prog 188 = true := by kernel_rfl
theorem sz189 : (Try.prog.info? 189).map (·.size) = some 1 := by kernel_rfl
theorem z189 : (Try.prog.info? 189).bind (·.zero) = some .nilFunc := by kernel_rfl
theorem one189 : oneB Try.prog 189 = true := by kernel_rfl
theorem sz190 : (Try.prog.info? 190).map (·.size) = some 1 := by kernel_rfl
theorem z190 : (Try.prog.info? 190).bind (·.zero) = some .nilFunc := by kernel_rfl
theorem one190 : oneB Try.prog 190 = true := by kernel_rfl
theorem sz191 : (Try.prog.info? 191).map (·.size) = some 1 := by kernel_rfl
theorem z191 : (Try.prog.info? 191).bind (·.zero) = some .nilFunc := by kernel_rfl
theorem one191 : oneB Try.prog 191 = true := by kernel_rfl
theorem sz192 : (Try.prog.info? 192).map (·.size) = some 1 := by kernel_rfl
theorem z192 : (Try.prog.info? 192).bind (·.zero) = some .nilFunc := by kernel_rfl
theorem one192 : oneB Try.prog 192 = true := by kernel_rfl
theorem sz193 : (Try.prog.info? 193).map (·.size) = some 1 := by kernel_rfl
theorem z193 : (Try.prog.info? 193).bind (·.zero) = some .nilFunc := by kernel_rfl
theorem one193 : oneB Try.prog 193 = true := by kernel_rfl
theorem sz194 : (Try.prog.info? 194).map (·.size) = some 1 := by kernel_rfl
theorem z194 : (Try.prog.info? 194).bind (·.zero) = some (.tuple #[(.agg #[(.slice none 0 0), (.int .i64 0)]), (.bool false)]) := by kernel_rfl
theorem one194 : oneB Try.prog 194 = true := by kernel_rfl
theorem sz195 : (Try.prog.info? 195).map (·.size) = some 1 := by kernel_rfl
theorem z195 : (Try.prog.info? 195).bind (·.zero) = some .nilFunc := by kernel_rfl
theorem one195 : oneB Try.prog 195 = true := by kernel_rfl
theorem sz196 : (Try.prog.info? 196).map (·.size) = some 1 := by kernel_rfl
theorem z196 : (Try.prog.info? 196).bind (·.zero) = some .nilFunc := by kernel_rfl
theorem one196 : oneB Try.prog 196 = true := by kernel_rfl
theorem sz197 : (Try.prog.info? 197).map (·.size) = some 1 := by kernel_rfl
theorem z197 : (Try.prog.info? 197).bind (·.zero) = some .nilFunc := by kernel_rfl
theorem one197 : oneB Try.prog 197 = true := by kernel_rfl
theorem sz198 : (Try.prog.info? 198).map (·.size) = some 1 := by kernel_rfl
theorem z198 : (Try.prog.info? 198).bind (·.zero) = some .nilFunc := by kernel_rfl
theorem one198 : oneB Try.prog 198 = true := by kernel_rfl
theorem sz199 : (Try.prog.info? 199).map (·.size) = some 1 := by kernel_rfl
theorem z199 : (Try.prog.info? 199).bind (·.zero) = some .nilFunc := by kernel_rfl
theorem one199 : oneB Try.prog 199 = true := by kernel_rfl
theorem sz200 : (Try.prog.info? 200).map (·.size) = some 1 := by kernel_rfl
theorem z200 : (Try.prog.info? 200).bind (·.zero) = some (.tuple #[(.slice none 0 0), (.int .i64 0), (.int .i64 0)]) := by kernel_rfl
theorem one200 : oneB Try.prog 200 = true := by kernel_rfl
theorem sz201 : (Try.prog.info? 201).map (·.size) = some 1 := by kernel_rfl
theorem z201 : (Try.prog.info? 201).bind (·.zero) = some .nilFunc := by kernel_rfl
theorem one201 : oneB Try.prog 201 = true := by kernel_rfl
theorem sz202 : (Try.prog.info? 202).map (·.size) = some 1 := by kernel_rfl
theorem z202 : (Try.prog.info? 202).bind (·.zero) = some (.int .u64 0) := by kernel_rfl
theorem one202 : oneB Try.prog 202 = true := by kernel_rfl
theorem int202 : Try.prog.underlying 202 = some (.int .u64) := by kernel_rfl
theorem sz203 : (Try.prog.info? 203).map (·.size) = some 256 := by kernel_rfl
theorem agg203 : aggB Try.prog 203 256 = true := by kernel_rfl
theorem sz204 : (Try.prog.info? 204).map (·.size) = some 1 := by kernel_rfl
theorem z204 : (Try.prog.info? 204).bind (·.zero) = some .nilFunc := by kernel_rfl
theorem one204 : oneB Try.prog 204 = true := by kernel_rfl
theorem sz205 : (Try.prog.info? 205).map (·.size) = some 1 := by kernel_rfl
theorem z205 : (Try.prog.info? 205).bind (·.zero) = some .nilFunc := by kernel_rfl
theorem one205 : oneB Try.prog 205 = true := by kernel_rfl
theorem sz206 : (Try.prog.info? 206).map (·.size) = some 1 := by kernel_rfl
theorem z206 : (Try.prog.info? 206).bind (·.zero) = some .nilFunc := by kernel_rfl
theorem one206 : oneB Try.prog 206 = true := by kernel_rfl
theorem sz207 : (Try.prog.info? 207).map (·.size) = some 1 := by kernel_rfl
theorem z207 : (Try.prog.info? 207).bind (·.zero) = some .nilFunc := by kernel_rfl
theorem one207 : oneB Try.prog 207 = true := by kernel_rfl
theorem sz208 : (Try.prog.info? 208).map (·.size) = some 1 := by kernel_rfl
theorem z208 : (Try.prog.info? 208).bind (·.zero) = some (.tuple #[(.string ⟨#[]⟩), (.bool false)]) := by kernel_rfl
theorem one208 : oneB Try.prog 208 = true := by kernel_rfl
theorem sz209 : (Try.prog.info? 209).map (·.size) = some 1 := by kernel_rfl
theorem z209 : (Try.prog.info? 209).bind (·.zero) = some .nilFunc := by kernel_rfl
theorem one209 : oneB Try.prog 209 = true := by kernel_rfl
theorem sz210 : (Try.prog.info? 210).map (·.size) = some 1 := by kernel_rfl
theorem z210 : (Try.prog.info? 210).bind (·.zero) = some .nilFunc := by kernel_rfl
theorem one210 : oneB Try.prog 210 = true := by kernel_rfl
theorem sz211 : (Try.prog.info? 211).map (·.size) = some 1 := by kernel_rfl
theorem z211 : (Try.prog.info? 211).bind (·.zero) = some .nilFunc := by kernel_rfl
theorem one211 : oneB Try.prog 211 = true := by kernel_rfl
theorem sz212 : (Try.prog.info? 212).map (·.size) = some 1 := by kernel_rfl
theorem z212 : (Try.prog.info? 212).bind (·.zero) = some .nilFunc := by kernel_rfl
theorem one212 : oneB Try.prog 212 = true := by kernel_rfl
theorem sz213 : (Try.prog.info? 213).map (·.size) = some 1 := by kernel_rfl
theorem z213 : (Try.prog.info? 213).bind (·.zero) = some .nilFunc := by kernel_rfl
theorem one213 : oneB Try.prog 213 = true := by kernel_rfl
theorem sz214 : (Try.prog.info? 214).map (·.size) = some 1 := by kernel_rfl
theorem z214 : (Try.prog.info? 214).bind (·.zero) = some .nilFunc := by kernel_rfl
theorem one214 : oneB Try.prog 214 = true := by kernel_rfl
theorem sz215 : (Try.prog.info? 215).map (·.size) = some 1 := by kernel_rfl
theorem z215 : (Try.prog.info? 215).bind (·.zero) = some .nilFunc := by kernel_rfl
theorem one215 : oneB Try.prog 215 = true := by kernel_rfl
theorem sz216 : (Try.prog.info? 216).map (·.size) = some 1 := by kernel_rfl
theorem z216 : (Try.prog.info? 216).bind (·.zero) = some .nilFunc := by kernel_rfl
theorem one216 : oneB Try.prog 216 = true := by kernel_rfl
theorem sz217 : (Try.prog.info? 217).map (·.size) = some 1 := by kernel_rfl
theorem z217 : (Try.prog.info? 217).bind (·.zero) = some .nilFunc := by kernel_rfl
theorem one217 : oneB Try.prog 217 = true := by kernel_rfl
theorem sz218 : (Try.prog.info? 218).map (·.size) = some 1 := by kernel_rfl
theorem z218 : (Try.prog.info? 218).bind (·.zero) = some .nilFunc := by kernel_rfl
theorem one218 : oneB Try.prog 218 = true := by kernel_rfl
theorem sz219 : (Try.prog.info? 219).map (·.size) = some 1 := by kernel_rfl
theorem z219 : (Try.prog.info? 219).bind (·.zero) = some .nilFunc := by kernel_rfl
theorem one219 : oneB Try.prog 219 = true := by kernel_rfl
theorem sz220 : (Try.prog.info? 220).map (·.size) = some 1 := by kernel_rfl
theorem z220 : (Try.prog.info? 220).bind (·.zero) = some .nilFunc := by kernel_rfl
theorem one220 : oneB Try.prog 220 = true := by kernel_rfl
theorem sz221 : (Try.prog.info? 221).map (·.size) = some 1 := by kernel_rfl
theorem z221 : (Try.prog.info? 221).bind (·.zero) = some .nilFunc := by kernel_rfl
theorem one221 : oneB Try.prog 221 = true := by kernel_rfl
theorem sz222 : (Try.prog.info? 222).map (·.size) = some 1 := by kernel_rfl
theorem z222 : (Try.prog.info? 222).bind (·.zero) = some .nilFunc := by kernel_rfl
theorem one222 : oneB Try.prog 222 = true := by kernel_rfl
theorem sz223 : (Try.prog.info? 223).map (·.size) = some 1 := by kernel_rfl
theorem z223 : (Try.prog.info? 223).bind (·.zero) = some (.int .i64 0) := by kernel_rfl
theorem one223 : oneB Try.prog 223 = true := by kernel_rfl
theorem int223 : Try.prog.underlying 223 = some (.int .i64) := by kernel_rfl
theorem sz224 : (Try.prog.info? 224).map (·.size) = some 1 := by kernel_rfl
theorem z224 : (Try.prog.info? 224).bind (·.zero) = some (.tuple #[(.int .i64 0), (.int .i64 0)]) := by kernel_rfl
theorem one224 : oneB Try.prog 224 = true := by kernel_rfl
theorem sz225 : (Try.prog.info? 225).map (·.size) = some 1 := by kernel_rfl
theorem z225 : (Try.prog.info? 225).bind (·.zero) = some .nilFunc := by kernel_rfl
theorem one225 : oneB Try.prog 225 = true := by kernel_rfl
theorem sz226 : (Try.prog.info? 226).map (·.size) = some 1 := by kernel_rfl
theorem z226 : (Try.prog.info? 226).bind (·.zero) = some .nilFunc := by kernel_rfl
theorem one226 : oneB Try.prog 226 = true := by kernel_rfl
theorem sz227 : (Try.prog.info? 227).map (·.size) = some 1 := by kernel_rfl
theorem z227 : (Try.prog.info? 227).bind (·.zero) = some .nilFunc := by kernel_rfl
theorem one227 : oneB Try.prog 227 = true := by kernel_rfl
theorem sz228 : (Try.prog.info? 228).map (·.size) = some 1 := by kernel_rfl
theorem z228 : (Try.prog.info? 228).bind (·.zero) = some (.tuple #[(.int .i64 0), (.bool false)]) := by kernel_rfl
theorem one228 : oneB Try.prog 228 = true := by kernel_rfl
theorem sz229 : (Try.prog.info? 229).map (·.size) = some 1 := by kernel_rfl
theorem z229 : (Try.prog.info? 229).bind (·.zero) = some .nilFunc := by kernel_rfl
theorem one229 : oneB Try.prog 229 = true := by kernel_rfl
theorem sz230 : (Try.prog.info? 230).map (·.size) = some 1 := by kernel_rfl
theorem z230 : (Try.prog.info? 230).bind (·.zero) = some .nilFunc := by kernel_rfl
theorem one230 : oneB Try.prog 230 = true := by kernel_rfl
theorem sz231 : (Try.prog.info? 231).map (·.size) = some 1 := by kernel_rfl
theorem z231 : (Try.prog.info? 231).bind (·.zero) = some .nilFunc := by kernel_rfl
theorem one231 : oneB Try.prog 231 = true := by kernel_rfl
theorem sz232 : (Try.prog.info? 232).map (·.size) = some 1 := by kernel_rfl
theorem z232 : (Try.prog.info? 232).bind (·.zero) = some .nilFunc := by kernel_rfl
theorem one232 : oneB Try.prog 232 = true := by kernel_rfl
theorem sz233 : (Try.prog.info? 233).map (·.size) = some 1 := by kernel_rfl
theorem z233 : (Try.prog.info? 233).bind (·.zero) = some .nilFunc := by kernel_rfl
theorem one233 : oneB Try.prog 233 = true := by kernel_rfl
theorem sz234 : (Try.prog.info? 234).map (·.size) = some 1 := by kernel_rfl
theorem z234 : (Try.prog.info? 234).bind (·.zero) = some .nilFunc := by kernel_rfl
theorem one234 : oneB Try.prog 234 = true := by kernel_rfl
theorem sz235 : (Try.prog.info? 235).map (·.size) = some 1 := by kernel_rfl
theorem z235 : (Try.prog.info? 235).bind (·.zero) = some .nilFunc := by kernel_rfl
theorem one235 : oneB Try.prog 235 = true := by kernel_rfl
theorem sz236 : (Try.prog.info? 236).map (·.size) = some 1 := by kernel_rfl
theorem z236 : (Try.prog.info? 236).bind (·.zero) = some .nilFunc := by kernel_rfl
theorem one236 : oneB Try.prog 236 = true := by kernel_rfl
theorem sz237 : (Try.prog.info? 237).map (·.size) = some 1 := by kernel_rfl
theorem z237 : (Try.prog.info? 237).bind (·.zero) = some .nilFunc := by kernel_rfl
theorem one237 : oneB Try.prog 237 = true := by kernel_rfl
theorem sz238 : (Try.prog.info? 238).map (·.size) = some 1 := by kernel_rfl
theorem z238 : (Try.prog.info? 238).bind (·.zero) = some (.int .u64 0) := by kernel_rfl
theorem one238 : oneB Try.prog 238 = true := by kernel_rfl
theorem int238 : Try.prog.underlying 238 = some (.int .u64) := by kernel_rfl
theorem sz239 : (Try.prog.info? 239).map (·.size) = some 1 := by kernel_rfl
theorem z239 : (Try.prog.info? 239).bind (·.zero) = some .nilFunc := by kernel_rfl
theorem one239 : oneB Try.prog 239 = true := by kernel_rfl
theorem sz240 : (Try.prog.info? 240).map (·.size) = some 1 := by kernel_rfl
theorem z240 : (Try.prog.info? 240).bind (·.zero) = some .nilFunc := by kernel_rfl
theorem one240 : oneB Try.prog 240 = true := by kernel_rfl
theorem sz241 : (Try.prog.info? 241).map (·.size) = some 1 := by kernel_rfl
theorem z241 : (Try.prog.info? 241).bind (·.zero) = some (.pointer none) := by kernel_rfl
theorem one241 : oneB Try.prog 241 = true := by kernel_rfl
theorem sz242 : (Try.prog.info? 242).map (·.size) = some 1 := by kernel_rfl
theorem z242 : (Try.prog.info? 242).bind (·.zero) = some .nilFunc := by kernel_rfl
theorem one242 : oneB Try.prog 242 = true := by kernel_rfl
theorem sz243 : (Try.prog.info? 243).map (·.size) = some 1 := by kernel_rfl
theorem z243 : (Try.prog.info? 243).bind (·.zero) = some .nilFunc := by kernel_rfl
theorem one243 : oneB Try.prog 243 = true := by kernel_rfl
theorem sz244 : (Try.prog.info? 244).map (·.size) = some 1 := by kernel_rfl
theorem z244 : (Try.prog.info? 244).bind (·.zero) = some .nilFunc := by kernel_rfl
theorem one244 : oneB Try.prog 244 = true := by kernel_rfl
theorem sz245 : (Try.prog.info? 245).map (·.size) = some 1 := by kernel_rfl
theorem z245 : (Try.prog.info? 245).bind (·.zero) = some (.pointer none) := by kernel_rfl
theorem one245 : oneB Try.prog 245 = true := by kernel_rfl
theorem sz246 : (Try.prog.info? 246).map (·.size) = some 1 := by kernel_rfl
theorem z246 : (Try.prog.info? 246).bind (·.zero) = some (.tuple #[(.int .i64 0), (.int .i64 0)]) := by kernel_rfl
theorem one246 : oneB Try.prog 246 = true := by kernel_rfl
theorem sz247 : (Try.prog.info? 247).map (·.size) = some 1 := by kernel_rfl
theorem z247 : (Try.prog.info? 247).bind (·.zero) = some .nilFunc := by kernel_rfl
theorem one247 : oneB Try.prog 247 = true := by kernel_rfl
theorem sz248 : (Try.prog.info? 248).map (·.size) = some 1 := by kernel_rfl
theorem z248 : (Try.prog.info? 248).bind (·.zero) = some .nilFunc := by kernel_rfl
theorem one248 : oneB Try.prog 248 = true := by kernel_rfl
theorem sz249 : (Try.prog.info? 249).map (·.size) = some 1 := by kernel_rfl
theorem z249 : (Try.prog.info? 249).bind (·.zero) = some .nilFunc := by kernel_rfl
theorem one249 : oneB Try.prog 249 = true := by kernel_rfl
theorem sz250 : (Try.prog.info? 250).map (·.size) = some 4 := by kernel_rfl
theorem z250 : (Try.prog.info? 250).bind (·.zero) = some (.agg #[(.pointer none), (.pointer none), (.pointer none), (.string ⟨#[]⟩)]) := by kernel_rfl
theorem agg250 : aggB Try.prog 250 4 = true := by kernel_rfl
theorem pl250 : structPlaces Try.prog 250 = some [(0, 1), (1, 1), (2, 1), (3, 1)] := by kernel_rfl
theorem fl250_0 : fieldB Try.prog 250 0 0 = true := by kernel_rfl
theorem fl250_1 : fieldB Try.prog 250 1 1 = true := by kernel_rfl
theorem fl250_2 : fieldB Try.prog 250 2 2 = true := by kernel_rfl
theorem fl250_3 : fieldB Try.prog 250 3 3 = true := by kernel_rfl
theorem sz251 : (Try.prog.info? 251).map (·.size) = some 4 := by kernel_rfl
theorem z251 : (Try.prog.info? 251).bind (·.zero) = some (.agg #[(.pointer none), (.pointer none), (.pointer none), (.string ⟨#[]⟩)]) := by kernel_rfl
theorem agg251 : aggB Try.prog 251 4 = true := by kernel_rfl
theorem pl251 : structPlaces Try.prog 251 = some [(0, 1), (1, 1), (2, 1), (3, 1)] := by kernel_rfl
theorem fl251_0 : fieldB Try.prog 251 0 0 = true := by kernel_rfl
theorem fl251_1 : fieldB Try.prog 251 1 1 = true := by kernel_rfl
theorem fl251_2 : fieldB Try.prog 251 2 2 = true := by kernel_rfl
theorem fl251_3 : fieldB Try.prog 251 3 3 = true := by kernel_rfl
theorem sz252 : (Try.prog.info? 252).map (·.size) = some 0 := by kernel_rfl
theorem z252 : (Try.prog.info? 252).bind (·.zero) = some (.agg #[]) := by kernel_rfl
theorem agg252 : aggB Try.prog 252 0 = true := by kernel_rfl
theorem sz253 : (Try.prog.info? 253).map (·.size) = some 0 := by kernel_rfl
theorem z253 : (Try.prog.info? 253).bind (·.zero) = some (.agg #[]) := by kernel_rfl
theorem agg253 : aggB Try.prog 253 0 = true := by kernel_rfl
theorem pl253 : structPlaces Try.prog 253 = some [(0, 0)] := by kernel_rfl
theorem sz254 : (Try.prog.info? 254).map (·.size) = some 0 := by kernel_rfl
theorem z254 : (Try.prog.info? 254).bind (·.zero) = some (.agg #[]) := by kernel_rfl
theorem agg254 : aggB Try.prog 254 0 = true := by kernel_rfl
theorem pl254 : structPlaces Try.prog 254 = some [(0, 0)] := by kernel_rfl
theorem sz255 : (Try.prog.info? 255).map (·.size) = some 1 := by kernel_rfl
theorem z255 : (Try.prog.info? 255).bind (·.zero) = some (.int .u8 0) := by kernel_rfl
theorem one255 : oneB Try.prog 255 = true := by kernel_rfl
theorem int255 : Try.prog.underlying 255 = some (.int .u8) := by kernel_rfl
theorem sz256 : (Try.prog.info? 256).map (·.size) = some 1 := by kernel_rfl
theorem z256 : (Try.prog.info? 256).bind (·.zero) = some (.int .u8 0) := by kernel_rfl
theorem one256 : oneB Try.prog 256 = true := by kernel_rfl
theorem int256 : Try.prog.underlying 256 = some (.int .u8) := by kernel_rfl
theorem sz257 : (Try.prog.info? 257).map (·.size) = some 1 := by kernel_rfl
theorem z257 : (Try.prog.info? 257).bind (·.zero) = some .nilFunc := by kernel_rfl
theorem one257 : oneB Try.prog 257 = true := by kernel_rfl
theorem sz258 : (Try.prog.info? 258).map (·.size) = some 1 := by kernel_rfl
theorem z258 : (Try.prog.info? 258).bind (·.zero) = some (.pointer none) := by kernel_rfl
theorem one258 : oneB Try.prog 258 = true := by kernel_rfl
theorem sz259 : (Try.prog.info? 259).map (·.size) = some 1 := by kernel_rfl
theorem z259 : (Try.prog.info? 259).bind (·.zero) = some (.int .i32 0) := by kernel_rfl
theorem one259 : oneB Try.prog 259 = true := by kernel_rfl
theorem int259 : Try.prog.underlying 259 = some (.int .i32) := by kernel_rfl
theorem sz260 : (Try.prog.info? 260).map (·.size) = some 1 := by kernel_rfl
theorem z260 : (Try.prog.info? 260).bind (·.zero) = some (.int .i32 0) := by kernel_rfl
theorem one260 : oneB Try.prog 260 = true := by kernel_rfl
theorem int260 : Try.prog.underlying 260 = some (.int .i32) := by kernel_rfl
theorem sz261 : (Try.prog.info? 261).map (·.size) = some 11 := by kernel_rfl
theorem z261 : (Try.prog.info? 261).bind (·.zero) = some (.agg #[(.int .u64 0), (.int .u64 0), (.int .u32 0), (.int .u8 0), (.int .u8 0), (.int .u8 0), (.int .u8 0), .nilFunc, (.pointer none), (.int .i32 0), (.int .i32 0)]) := by kernel_rfl
theorem agg261 : aggB Try.prog 261 11 = true := by kernel_rfl
theorem pl261 : structPlaces Try.prog 261 = some [(0, 1), (1, 1), (2, 1), (3, 1), (4, 1), (5, 1), (6, 1), (7, 1), (8, 1), (9, 1), (10, 1)] := by kernel_rfl
theorem fl261_0 : fieldB Try.prog 261 0 0 = true := by kernel_rfl
theorem fl261_1 : fieldB Try.prog 261 1 1 = true := by kernel_rfl
theorem fl261_2 : fieldB Try.prog 261 2 2 = true := by kernel_rfl
theorem fl261_3 : fieldB Try.prog 261 3 3 = true := by kernel_rfl
theorem fl261_4 : fieldB Try.prog 261 4 4 = true := by kernel_rfl
theorem fl261_5 : fieldB Try.prog 261 5 5 = true := by kernel_rfl
theorem fl261_6 : fieldB Try.prog 261 6 6 = true := by kernel_rfl
theorem fl261_7 : fieldB Try.prog 261 7 7 = true := by kernel_rfl
theorem fl261_8 : fieldB Try.prog 261 8 8 = true := by kernel_rfl
theorem fl261_9 : fieldB Try.prog 261 9 9 = true := by kernel_rfl
theorem fl261_10 : fieldB Try.prog 261 10 10 = true := by kernel_rfl
theorem sz262 : (Try.prog.info? 262).map (·.size) = some 11 := by kernel_rfl
theorem z262 : (Try.prog.info? 262).bind (·.zero) = some (.agg #[(.int .u64 0), (.int .u64 0), (.int .u32 0), (.int .u8 0), (.int .u8 0), (.int .u8 0), (.int .u8 0), .nilFunc, (.pointer none), (.int .i32 0), (.int .i32 0)]) := by kernel_rfl
theorem agg262 : aggB Try.prog 262 11 = true := by kernel_rfl
theorem pl262 : structPlaces Try.prog 262 = some [(0, 1), (1, 1), (2, 1), (3, 1), (4, 1), (5, 1), (6, 1), (7, 1), (8, 1), (9, 1), (10, 1)] := by kernel_rfl
theorem fl262_0 : fieldB Try.prog 262 0 0 = true := by kernel_rfl
theorem fl262_1 : fieldB Try.prog 262 1 1 = true := by kernel_rfl
theorem fl262_2 : fieldB Try.prog 262 2 2 = true := by kernel_rfl
theorem fl262_3 : fieldB Try.prog 262 3 3 = true := by kernel_rfl
theorem fl262_4 : fieldB Try.prog 262 4 4 = true := by kernel_rfl
theorem fl262_5 : fieldB Try.prog 262 5 5 = true := by kernel_rfl
theorem fl262_6 : fieldB Try.prog 262 6 6 = true := by kernel_rfl
theorem fl262_7 : fieldB Try.prog 262 7 7 = true := by kernel_rfl
theorem fl262_8 : fieldB Try.prog 262 8 8 = true := by kernel_rfl
theorem fl262_9 : fieldB Try.prog 262 9 9 = true := by kernel_rfl
theorem fl262_10 : fieldB Try.prog 262 10 10 = true := by kernel_rfl
theorem sz263 : (Try.prog.info? 263).map (·.size) = some 1 := by kernel_rfl
theorem z263 : (Try.prog.info? 263).bind (·.zero) = some (.pointer none) := by kernel_rfl
theorem one263 : oneB Try.prog 263 = true := by kernel_rfl
theorem body2 : bodyB Try.prog 2 := Try.call2
theorem body3 : bodyB Try.prog 3 := Try.call3
theorem body4 : bodyB Try.prog 4 := Try.call4
theorem body5 : bodyB Try.prog 5 := Try.call5
theorem body6 : bodyB Try.prog 6 := Try.call6
theorem body7 : bodyB Try.prog 7 := Try.call7
theorem body8 : bodyB Try.prog 8 := Try.call8
theorem body9 : bodyB Try.prog 9 := Try.call9
theorem body10 : bodyB Try.prog 10 := Try.call10
theorem body11 : bodyB Try.prog 11 := Try.call11
theorem body12 : bodyB Try.prog 12 := Try.call12
theorem body13 : bodyB Try.prog 13 := Try.call13
theorem body14 : bodyB Try.prog 14 := Try.call14
theorem body15 : bodyB Try.prog 15 := Try.call15
theorem body16 : bodyB Try.prog 16 := Try.call16
theorem body17 : bodyB Try.prog 17 := Try.call17
theorem body18 : bodyB Try.prog 18 := Try.call18
theorem body19 : bodyB Try.prog 19 := Try.call19
theorem body20 : bodyB Try.prog 20 := Try.call20
theorem body21 : bodyB Try.prog 21 := Try.call21
theorem body22 : bodyB Try.prog 22 := Try.call22
theorem body23 : bodyB Try.prog 23 := Try.call23
theorem body24 : bodyB Try.prog 24 := Try.call24
theorem body25 : bodyB Try.prog 25 := Try.call25
theorem body26 : bodyB Try.prog 26 := Try.call26
theorem body27 : bodyB Try.prog 27 := Try.call27
theorem body28 : bodyB Try.prog 28 := Try.call28
theorem body29 : bodyB Try.prog 29 := Try.call29
theorem body30 : bodyB Try.prog 30 := Try.call30
theorem body31 : bodyB Try.prog 31 := Try.call31
theorem body32 : bodyB Try.prog 32 := Try.call32
theorem body33 : bodyB Try.prog 33 := Try.call33
theorem body34 : bodyB Try.prog 34 := Try.call34
theorem body35 : bodyB Try.prog 35 := Try.call35
theorem body36 : bodyB Try.prog 36 := Try.call36
theorem body37 : bodyB Try.prog 37 := Try.call37
theorem body38 : bodyB Try.prog 38 := Try.call38
theorem body39 : bodyB Try.prog 39 := Try.call39
theorem body40 : bodyB Try.prog 40 := Try.call40
theorem body41 : bodyB Try.prog 41 := Try.call41
theorem body42 : bodyB Try.prog 42 := Try.call42
theorem body43 : bodyB Try.prog 43 := Try.call43
theorem body44 : bodyB Try.prog 44 := Try.call44
theorem body45 : bodyB Try.prog 45 := Try.call45
theorem body46 : bodyB Try.prog 46 := Try.call46
theorem body47 : bodyB Try.prog 47 := Try.call47
theorem body48 : bodyB Try.prog 48 := Try.call48
theorem body49 : bodyB Try.prog 49 := Try.call49
theorem body50 : bodyB Try.prog 50 := Try.call50
theorem body51 : bodyB Try.prog 51 := Try.call51
theorem body52 : bodyB Try.prog 52 := Try.call52
theorem body53 : bodyB Try.prog 53 := Try.call53
theorem body54 : bodyB Try.prog 54 := Try.call54
theorem body55 : bodyB Try.prog 55 := Try.call55
theorem body56 : bodyB Try.prog 56 := Try.call56
theorem body57 : bodyB Try.prog 57 := Try.call57
theorem body58 : bodyB Try.prog 58 := Try.call58
theorem body59 : bodyB Try.prog 59 := Try.call59
theorem body60 : bodyB Try.prog 60 := Try.call60
theorem body61 : bodyB Try.prog 61 := Try.call61
theorem body62 : bodyB Try.prog 62 := Try.call62
theorem body63 : bodyB Try.prog 63 := Try.call63
theorem body64 : bodyB Try.prog 64 := Try.call64
theorem body65 : bodyB Try.prog 65 := Try.call65
theorem body66 : bodyB Try.prog 66 := Try.call66
theorem body67 : bodyB Try.prog 67 := Try.call67
theorem body68 : bodyB Try.prog 68 := Try.call68
theorem body69 : bodyB Try.prog 69 := Try.call69
theorem body70 : bodyB Try.prog 70 := Try.call70
theorem body71 : bodyB Try.prog 71 := Try.call71
theorem body72 : bodyB Try.prog 72 := Try.call72
theorem body73 : bodyB Try.prog 73 := Try.call73
theorem body74 : bodyB Try.prog 74 := Try.call74
theorem body75 : bodyB Try.prog 75 := Try.call75
theorem body76 : bodyB Try.prog 76 := Try.call76
theorem body77 : bodyB Try.prog 77 := Try.call77
theorem body78 : bodyB Try.prog 78 := Try.call78
theorem body79 : bodyB Try.prog 79 := Try.call79
theorem body80 : bodyB Try.prog 80 := Try.call80
theorem body81 : bodyB Try.prog 81 := Try.call81
theorem body82 : bodyB Try.prog 82 := Try.call82
theorem body83 : bodyB Try.prog 83 := Try.call83
theorem body84 : bodyB Try.prog 84 := Try.call84
theorem body85 : bodyB Try.prog 85 := Try.call85
theorem body86 : bodyB Try.prog 86 := Try.call86
theorem body87 : bodyB Try.prog 87 := Try.call87
theorem body88 : bodyB Try.prog 88 := Try.call88
theorem body89 : bodyB Try.prog 89 := Try.call89
theorem body90 : bodyB Try.prog 90 := Try.call90
theorem body91 : bodyB Try.prog 91 := Try.call91
theorem body92 : bodyB Try.prog 92 := Try.call92
theorem body93 : bodyB Try.prog 93 := Try.call93
theorem body94 : bodyB Try.prog 94 := Try.call94
theorem body95 : bodyB Try.prog 95 := Try.call95
theorem body96 : bodyB Try.prog 96 := Try.call96
theorem body97 : bodyB Try.prog 97 := Try.call97
theorem body98 : bodyB Try.prog 98 := Try.call98
theorem body99 : bodyB Try.prog 99 := Try.call99
theorem body100 : bodyB Try.prog 100 := Try.call100
theorem body101 : bodyB Try.prog 101 := Try.call101
theorem body102 : bodyB Try.prog 102 := Try.call102
theorem body103 : bodyB Try.prog 103 := Try.call103
theorem body104 : bodyB Try.prog 104 := Try.call104
theorem body105 : bodyB Try.prog 105 := Try.call105
theorem body106 : bodyB Try.prog 106 := Try.call106
theorem body107 : bodyB Try.prog 107 := Try.call107
theorem body108 : bodyB Try.prog 108 := Try.call108
theorem body109 : bodyB Try.prog 109 := Try.call109
theorem body110 : bodyB Try.prog 110 := Try.call110
theorem body111 : bodyB Try.prog 111 := Try.call111
theorem body112 : bodyB Try.prog 112 := Try.call112
theorem body113 : bodyB Try.prog 113 := Try.call113
theorem body114 : bodyB Try.prog 114 := Try.call114
theorem body115 : bodyB Try.prog 115 := Try.call115
theorem body116 : bodyB Try.prog 116 := Try.call116
theorem body117 : bodyB Try.prog 117 := Try.call117
theorem body118 : bodyB Try.prog 118 := Try.call118
theorem body119 : bodyB Try.prog 119 := Try.call119
theorem body120 : bodyB Try.prog 120 := Try.call120
theorem body121 : bodyB Try.prog 121 := Try.call121
theorem body122 : bodyB Try.prog 122 := Try.call122
theorem body124 : bodyB Try.prog 124 := Try.call124
theorem body125 : bodyB Try.prog 125 := Try.call125
theorem body126 : bodyB Try.prog 126 := Try.call126
theorem body127 : bodyB Try.prog 127 := Try.call127
theorem body128 : bodyB Try.prog 128 := Try.call128
theorem body129 : bodyB Try.prog 129 := Try.call129
theorem body130 : bodyB Try.prog 130 := Try.call130
theorem body131 : bodyB Try.prog 131 := Try.call131
theorem body132 : bodyB Try.prog 132 := Try.call132
theorem body133 : bodyB Try.prog 133 := Try.call133
theorem body134 : bodyB Try.prog 134 := Try.call134
theorem body135 : bodyB Try.prog 135 := Try.call135
theorem body136 : bodyB Try.prog 136 := Try.call136
theorem body137 : bodyB Try.prog 137 := Try.call137
theorem body138 : bodyB Try.prog 138 := Try.call138
theorem body139 : bodyB Try.prog 139 := Try.call139
theorem body140 : bodyB Try.prog 140 := Try.call140
theorem body141 : bodyB Try.prog 141 := Try.call141
theorem body142 : bodyB Try.prog 142 := Try.call142
theorem body143 : bodyB Try.prog 143 := Try.call143
theorem body144 : bodyB Try.prog 144 := Try.call144
theorem body145 : bodyB Try.prog 145 := Try.call145
theorem body146 : bodyB Try.prog 146 := Try.call146
theorem body147 : bodyB Try.prog 147 := Try.call147
theorem body148 : bodyB Try.prog 148 := Try.call148
theorem body149 : bodyB Try.prog 149 := Try.call149
theorem body150 : bodyB Try.prog 150 := Try.call150
theorem body151 : bodyB Try.prog 151 := Try.call151
theorem body152 : bodyB Try.prog 152 := Try.call152
theorem body154 : bodyB Try.prog 154 := Try.call154
theorem body155 : bodyB Try.prog 155 := Try.call155
theorem body156 : bodyB Try.prog 156 := Try.call156
theorem body157 : bodyB Try.prog 157 := Try.call157
theorem body158 : bodyB Try.prog 158 := Try.call158
theorem body159 : bodyB Try.prog 159 := Try.call159
theorem body160 : bodyB Try.prog 160 := Try.call160
theorem body161 : bodyB Try.prog 161 := Try.call161
theorem body162 : bodyB Try.prog 162 := Try.call162
theorem body163 : bodyB Try.prog 163 := Try.call163
theorem body164 : bodyB Try.prog 164 := Try.call164
theorem body165 : bodyB Try.prog 165 := Try.call165
theorem body166 : bodyB Try.prog 166 := Try.call166
theorem body167 : bodyB Try.prog 167 := Try.call167
theorem body168 : bodyB Try.prog 168 := Try.call168
theorem body169 : bodyB Try.prog 169 := Try.call169
theorem body170 : bodyB Try.prog 170 := Try.call170
theorem body171 : bodyB Try.prog 171 := Try.call171
theorem body172 : bodyB Try.prog 172 := Try.call172
theorem body173 : bodyB Try.prog 173 := Try.call173
theorem body174 : bodyB Try.prog 174 := Try.call174
theorem body175 : bodyB Try.prog 175 := Try.call175
theorem body176 : bodyB Try.prog 176 := Try.call176
theorem body177 : bodyB Try.prog 177 := Try.call177
theorem body178 : bodyB Try.prog 178 := Try.call178
theorem body179 : bodyB Try.prog 179 := Try.call179
theorem body180 : bodyB Try.prog 180 := Try.call180
theorem body181 : bodyB Try.prog 181 := Try.call181
theorem body182 : bodyB Try.prog 182 := Try.call182
theorem body183 : bodyB Try.prog 183 := Try.call183
theorem body184 : bodyB Try.prog 184 := Try.call184
theorem body185 : bodyB Try.prog 185 := Try.call185
theorem body187 : bodyB Try.prog 187 := Try.call187
theorem body188 : bodyB Try.prog 188 := Try.call188
theorem mixed : Try.prog.follows .mixedOrders = true := by kernel_rfl

end Go.Proofs.Ytlhibbjnhdcffaa
