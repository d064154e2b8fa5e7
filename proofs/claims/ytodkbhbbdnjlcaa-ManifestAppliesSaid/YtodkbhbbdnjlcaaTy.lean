/- Proved here: the part Ty of the proof that the law of this seat returns true for every input; no condition. -/
import Derived.Test.YtodkbhbbdnjlcaaProg
import Derived.Test.YtodkbhbbdnjlcaaGl9
import Derived.KernelRfl
set_option maxRecDepth 20000
set_option linter.unusedVariables false
set_option linter.unusedSimpArgs false
namespace Go.Proofs.Ytodkbhbbdnjlcaa
open Go Go.Gl

theorem sz0 : (Try.prog.info? 0).map (·.size) = some 1 := by kernel_rfl
theorem z0 : (Try.prog.info? 0).bind (·.zero) = some (.tuple #[]) := by kernel_rfl
theorem one0 : oneB Try.prog 0 = true := by kernel_rfl
theorem sz1 : (Try.prog.info? 1).map (·.size) = some 1 := by kernel_rfl
theorem z1 : (Try.prog.info? 1).bind (·.zero) = some .nilFunc := by kernel_rfl
theorem one1 : oneB Try.prog 1 = true := by kernel_rfl
theorem sz2 : (Try.prog.info? 2).map (·.size) = some 1 := by kernel_rfl
theorem z2 : (Try.prog.info? 2).bind (·.zero) = some (.int .i64 0) := by kernel_rfl
theorem one2 : oneB Try.prog 2 = true := by kernel_rfl
theorem int2 : Try.prog.underlying 2 = some (.int .i64) := by kernel_rfl
theorem sz3 : (Try.prog.info? 3).map (·.size) = some 1 := by kernel_rfl
theorem z3 : (Try.prog.info? 3).bind (·.zero) = some (.int .i64 0) := by kernel_rfl
theorem one3 : oneB Try.prog 3 = true := by kernel_rfl
theorem int3 : Try.prog.underlying 3 = some (.int .i64) := by kernel_rfl
theorem sz4 : (Try.prog.info? 4).map (·.size) = some 1 := by kernel_rfl
theorem z4 : (Try.prog.info? 4).bind (·.zero) = some (.bool false) := by kernel_rfl
theorem one4 : oneB Try.prog 4 = true := by kernel_rfl
theorem bool4 : Try.prog.underlying 4 = some .bool := by kernel_rfl
theorem sz5 : (Try.prog.info? 5).map (·.size) = some 1 := by kernel_rfl
theorem z5 : (Try.prog.info? 5).bind (·.zero) = some (.int .u8 0) := by kernel_rfl
theorem one5 : oneB Try.prog 5 = true := by kernel_rfl
theorem int5 : Try.prog.underlying 5 = some (.int .u8) := by kernel_rfl
theorem sz6 : (Try.prog.info? 6).map (·.size) = some 1 := by kernel_rfl
theorem z6 : (Try.prog.info? 6).bind (·.zero) = some (.int .u8 0) := by kernel_rfl
theorem one6 : oneB Try.prog 6 = true := by kernel_rfl
theorem int6 : Try.prog.underlying 6 = some (.int .u8) := by kernel_rfl
theorem sz7 : (Try.prog.info? 7).map (·.size) = some 4 := by kernel_rfl
theorem z7 : (Try.prog.info? 7).bind (·.zero) = some (.agg #[(.int .i64 0), (.int .i64 0), (.bool false), (.int .u8 0)]) := by kernel_rfl
theorem agg7 : aggB Try.prog 7 4 = true := by kernel_rfl
theorem pl7 : structPlaces Try.prog 7 = some [(0, 1), (1, 1), (2, 1), (3, 1)] := by kernel_rfl
theorem fl7_0 : fieldB Try.prog 7 0 0 = true := by kernel_rfl
theorem fl7_1 : fieldB Try.prog 7 1 1 = true := by kernel_rfl
theorem fl7_2 : fieldB Try.prog 7 2 2 = true := by kernel_rfl
theorem fl7_3 : fieldB Try.prog 7 3 3 = true := by kernel_rfl
theorem sz8 : (Try.prog.info? 8).map (·.size) = some 4 := by kernel_rfl
theorem z8 : (Try.prog.info? 8).bind (·.zero) = some (.agg #[(.int .i64 0), (.int .i64 0), (.bool false), (.int .u8 0)]) := by kernel_rfl
theorem agg8 : aggB Try.prog 8 4 = true := by kernel_rfl
theorem pl8 : structPlaces Try.prog 8 = some [(0, 1), (1, 1), (2, 1), (3, 1)] := by kernel_rfl
theorem fl8_0 : fieldB Try.prog 8 0 0 = true := by kernel_rfl
theorem fl8_1 : fieldB Try.prog 8 1 1 = true := by kernel_rfl
theorem fl8_2 : fieldB Try.prog 8 2 2 = true := by kernel_rfl
theorem fl8_3 : fieldB Try.prog 8 3 3 = true := by kernel_rfl
theorem sz9 : (Try.prog.info? 9).map (·.size) = some 1 := by kernel_rfl
theorem z9 : (Try.prog.info? 9).bind (·.zero) = some (.string ⟨#[]⟩) := by kernel_rfl
theorem one9 : oneB Try.prog 9 = true := by kernel_rfl
theorem sz10 : (Try.prog.info? 10).map (·.size) = some 1 := by kernel_rfl
theorem z10 : (Try.prog.info? 10).bind (·.zero) = some (.string ⟨#[]⟩) := by kernel_rfl
theorem one10 : oneB Try.prog 10 = true := by kernel_rfl
theorem sz11 : (Try.prog.info? 11).map (·.size) = some 1 := by kernel_rfl
theorem z11 : (Try.prog.info? 11).bind (·.zero) = some (.string ⟨#[]⟩) := by kernel_rfl
theorem one11 : oneB Try.prog 11 = true := by kernel_rfl
theorem sz12 : (Try.prog.info? 12).map (·.size) = some 1 := by kernel_rfl
theorem z12 : (Try.prog.info? 12).bind (·.zero) = some (.int .u64 0) := by kernel_rfl
theorem one12 : oneB Try.prog 12 = true := by kernel_rfl
theorem int12 : Try.prog.underlying 12 = some (.int .u64) := by kernel_rfl
theorem sz13 : (Try.prog.info? 13).map (·.size) = some 2 := by kernel_rfl
theorem z13 : (Try.prog.info? 13).bind (·.zero) = some (.agg #[(.string ⟨#[]⟩), (.int .u64 0)]) := by kernel_rfl
theorem agg13 : aggB Try.prog 13 2 = true := by kernel_rfl
theorem pl13 : structPlaces Try.prog 13 = some [(0, 1), (1, 1)] := by kernel_rfl
theorem fl13_0 : fieldB Try.prog 13 0 0 = true := by kernel_rfl
theorem fl13_1 : fieldB Try.prog 13 1 1 = true := by kernel_rfl
theorem sz14 : (Try.prog.info? 14).map (·.size) = some 2 := by kernel_rfl
theorem z14 : (Try.prog.info? 14).bind (·.zero) = some (.agg #[(.string ⟨#[]⟩), (.int .u64 0)]) := by kernel_rfl
theorem agg14 : aggB Try.prog 14 2 = true := by kernel_rfl
theorem pl14 : structPlaces Try.prog 14 = some [(0, 1), (1, 1)] := by kernel_rfl
theorem fl14_0 : fieldB Try.prog 14 0 0 = true := by kernel_rfl
theorem fl14_1 : fieldB Try.prog 14 1 1 = true := by kernel_rfl
theorem sz15 : (Try.prog.info? 15).map (·.size) = some 1 := by kernel_rfl
theorem z15 : (Try.prog.info? 15).bind (·.zero) = some (.pointer none) := by kernel_rfl
theorem one15 : oneB Try.prog 15 = true := by kernel_rfl
theorem sz16 : (Try.prog.info? 16).map (·.size) = some 1 := by kernel_rfl
theorem z16 : (Try.prog.info? 16).bind (·.zero) = some (.pointer none) := by kernel_rfl
theorem one16 : oneB Try.prog 16 = true := by kernel_rfl
theorem sz17 : (Try.prog.info? 17).map (·.size) = some 1 := by kernel_rfl
theorem z17 : (Try.prog.info? 17).bind (·.zero) = some (.pointer none) := by kernel_rfl
theorem one17 : oneB Try.prog 17 = true := by kernel_rfl
theorem sz18 : (Try.prog.info? 18).map (·.size) = some 1 := by kernel_rfl
theorem z18 : (Try.prog.info? 18).bind (·.zero) = some (.agg #[(.pointer none)]) := by kernel_rfl
theorem agg18 : aggB Try.prog 18 1 = true := by kernel_rfl
theorem pl18 : structPlaces Try.prog 18 = some [(0, 1)] := by kernel_rfl
theorem fl18_0 : fieldB Try.prog 18 0 0 = true := by kernel_rfl
theorem sz19 : (Try.prog.info? 19).map (·.size) = some 1 := by kernel_rfl
theorem z19 : (Try.prog.info? 19).bind (·.zero) = some (.agg #[(.pointer none)]) := by kernel_rfl
theorem agg19 : aggB Try.prog 19 1 = true := by kernel_rfl
theorem pl19 : structPlaces Try.prog 19 = some [(0, 1)] := by kernel_rfl
theorem fl19_0 : fieldB Try.prog 19 0 0 = true := by kernel_rfl
theorem sz20 : (Try.prog.info? 20).map (·.size) = some 1 := by kernel_rfl
theorem z20 : (Try.prog.info? 20).bind (·.zero) = some .nilIface := by kernel_rfl
theorem one20 : oneB Try.prog 20 = true := by kernel_rfl
theorem sz21 : (Try.prog.info? 21).map (·.size) = some 1 := by kernel_rfl
theorem z21 : (Try.prog.info? 21).bind (·.zero) = some (.int .i32 0) := by kernel_rfl
theorem one21 : oneB Try.prog 21 = true := by kernel_rfl
theorem int21 : Try.prog.underlying 21 = some (.int .i32) := by kernel_rfl
theorem sz22 : (Try.prog.info? 22).map (·.size) = some 1 := by kernel_rfl
theorem z22 : (Try.prog.info? 22).bind (·.zero) = some (.slice none 0 0) := by kernel_rfl
theorem one22 : oneB Try.prog 22 = true := by kernel_rfl
theorem sl22 : sliceB Try.prog 22 55 6 80 = true := by kernel_rfl
theorem sz23 : (Try.prog.info? 23).map (·.size) = some 1 := by kernel_rfl
theorem z23 : (Try.prog.info? 23).bind (·.zero) = some (.int .u64 0) := by kernel_rfl
theorem one23 : oneB Try.prog 23 = true := by kernel_rfl
theorem int23 : Try.prog.underlying 23 = some (.int .u64) := by kernel_rfl
theorem sz24 : (Try.prog.info? 24).map (·.size) = some 3 := by kernel_rfl
theorem z24 : (Try.prog.info? 24).bind (·.zero) = some (.agg #[(.slice none 0 0), (.int .u64 0), (.int .u64 0)]) := by kernel_rfl
theorem agg24 : aggB Try.prog 24 3 = true := by kernel_rfl
theorem pl24 : structPlaces Try.prog 24 = some [(0, 1), (1, 1), (2, 1)] := by kernel_rfl
theorem fl24_0 : fieldB Try.prog 24 0 0 = true := by kernel_rfl
theorem fl24_1 : fieldB Try.prog 24 1 1 = true := by kernel_rfl
theorem fl24_2 : fieldB Try.prog 24 2 2 = true := by kernel_rfl
theorem sz25 : (Try.prog.info? 25).map (·.size) = some 3 := by kernel_rfl
theorem z25 : (Try.prog.info? 25).bind (·.zero) = some (.agg #[(.slice none 0 0), (.int .u64 0), (.int .u64 0)]) := by kernel_rfl
theorem agg25 : aggB Try.prog 25 3 = true := by kernel_rfl
theorem pl25 : structPlaces Try.prog 25 = some [(0, 1), (1, 1), (2, 1)] := by kernel_rfl
theorem fl25_0 : fieldB Try.prog 25 0 0 = true := by kernel_rfl
theorem fl25_1 : fieldB Try.prog 25 1 1 = true := by kernel_rfl
theorem fl25_2 : fieldB Try.prog 25 2 2 = true := by kernel_rfl
theorem sz26 : (Try.prog.info? 26).map (·.size) = some 1 := by kernel_rfl
theorem z26 : (Try.prog.info? 26).bind (·.zero) = some (.slice none 0 0) := by kernel_rfl
theorem one26 : oneB Try.prog 26 = true := by kernel_rfl
theorem sl26 : sliceB Try.prog 26 35 4 64 = true := by kernel_rfl
theorem sz27 : (Try.prog.info? 27).map (·.size) = some 1 := by kernel_rfl
theorem z27 : (Try.prog.info? 27).bind (·.zero) = some .nilFunc := by kernel_rfl
theorem one27 : oneB Try.prog 27 = true := by kernel_rfl
theorem sz28 : (Try.prog.info? 28).map (·.size) = some 1 := by kernel_rfl
theorem z28 : (Try.prog.info? 28).bind (·.zero) = some (.slice none 0 0) := by kernel_rfl
theorem one28 : oneB Try.prog 28 = true := by kernel_rfl
theorem sl28 : sliceB Try.prog 28 53 6 80 = true := by kernel_rfl
theorem sz29 : (Try.prog.info? 29).map (·.size) = some 3 := by kernel_rfl
theorem z29 : (Try.prog.info? 29).bind (·.zero) = some (.agg #[(.slice none 0 0), (.int .u64 0), (.int .u64 0)]) := by kernel_rfl
theorem agg29 : aggB Try.prog 29 3 = true := by kernel_rfl
theorem pl29 : structPlaces Try.prog 29 = some [(0, 1), (1, 1), (2, 1)] := by kernel_rfl
theorem fl29_0 : fieldB Try.prog 29 0 0 = true := by kernel_rfl
theorem fl29_1 : fieldB Try.prog 29 1 1 = true := by kernel_rfl
theorem fl29_2 : fieldB Try.prog 29 2 2 = true := by kernel_rfl
theorem sz30 : (Try.prog.info? 30).map (·.size) = some 3 := by kernel_rfl
theorem z30 : (Try.prog.info? 30).bind (·.zero) = some (.agg #[(.slice none 0 0), (.int .u64 0), (.int .u64 0)]) := by kernel_rfl
theorem agg30 : aggB Try.prog 30 3 = true := by kernel_rfl
theorem pl30 : structPlaces Try.prog 30 = some [(0, 1), (1, 1), (2, 1)] := by kernel_rfl
theorem fl30_0 : fieldB Try.prog 30 0 0 = true := by kernel_rfl
theorem fl30_1 : fieldB Try.prog 30 1 1 = true := by kernel_rfl
theorem fl30_2 : fieldB Try.prog 30 2 2 = true := by kernel_rfl
theorem sz31 : (Try.prog.info? 31).map (·.size) = some 1 := by kernel_rfl
theorem z31 : (Try.prog.info? 31).bind (·.zero) = some .nilFunc := by kernel_rfl
theorem one31 : oneB Try.prog 31 = true := by kernel_rfl
theorem sz32 : (Try.prog.info? 32).map (·.size) = some 1 := by kernel_rfl
theorem z32 : (Try.prog.info? 32).bind (·.zero) = some .nilFunc := by kernel_rfl
theorem one32 : oneB Try.prog 32 = true := by kernel_rfl
theorem sz33 : (Try.prog.info? 33).map (·.size) = some 1 := by kernel_rfl
theorem z33 : (Try.prog.info? 33).bind (·.zero) = some (.slice none 0 0) := by kernel_rfl
theorem one33 : oneB Try.prog 33 = true := by kernel_rfl
theorem sl33 : sliceB Try.prog 33 23 1 8 = true := by kernel_rfl
theorem sz34 : (Try.prog.info? 34).map (·.size) = some 4 := by kernel_rfl
theorem z34 : (Try.prog.info? 34).bind (·.zero) = some (.agg #[(.bool false), (.slice none 0 0), (.slice none 0 0), (.int .u64 0)]) := by kernel_rfl
theorem agg34 : aggB Try.prog 34 4 = true := by kernel_rfl
theorem pl34 : structPlaces Try.prog 34 = some [(0, 1), (1, 1), (2, 1), (3, 1)] := by kernel_rfl
theorem fl34_0 : fieldB Try.prog 34 0 0 = true := by kernel_rfl
theorem fl34_1 : fieldB Try.prog 34 1 1 = true := by kernel_rfl
theorem fl34_2 : fieldB Try.prog 34 2 2 = true := by kernel_rfl
theorem fl34_3 : fieldB Try.prog 34 3 3 = true := by kernel_rfl
theorem sz35 : (Try.prog.info? 35).map (·.size) = some 4 := by kernel_rfl
theorem z35 : (Try.prog.info? 35).bind (·.zero) = some (.agg #[(.bool false), (.slice none 0 0), (.slice none 0 0), (.int .u64 0)]) := by kernel_rfl
theorem agg35 : aggB Try.prog 35 4 = true := by kernel_rfl
theorem pl35 : structPlaces Try.prog 35 = some [(0, 1), (1, 1), (2, 1), (3, 1)] := by kernel_rfl
theorem fl35_0 : fieldB Try.prog 35 0 0 = true := by kernel_rfl
theorem fl35_1 : fieldB Try.prog 35 1 1 = true := by kernel_rfl
theorem fl35_2 : fieldB Try.prog 35 2 2 = true := by kernel_rfl
theorem fl35_3 : fieldB Try.prog 35 3 3 = true := by kernel_rfl
theorem sz36 : (Try.prog.info? 36).map (·.size) = some 1 := by kernel_rfl
theorem z36 : (Try.prog.info? 36).bind (·.zero) = some .nilFunc := by kernel_rfl
theorem one36 : oneB Try.prog 36 = true := by kernel_rfl
theorem sz37 : (Try.prog.info? 37).map (·.size) = some 1 := by kernel_rfl
theorem z37 : (Try.prog.info? 37).bind (·.zero) = some .nilFunc := by kernel_rfl
theorem one37 : oneB Try.prog 37 = true := by kernel_rfl
theorem sz38 : (Try.prog.info? 38).map (·.size) = some 1 := by kernel_rfl
theorem z38 : (Try.prog.info? 38).bind (·.zero) = some (.int .i64 0) := by kernel_rfl
theorem one38 : oneB Try.prog 38 = true := by kernel_rfl
theorem int38 : Try.prog.underlying 38 = some (.int .i64) := by kernel_rfl
theorem sz39 : (Try.prog.info? 39).map (·.size) = some 1 := by kernel_rfl
theorem z39 : (Try.prog.info? 39).bind (·.zero) = some (.tuple #[(.agg #[(.slice none 0 0), (.int .u64 0), (.int .u64 0)]), (.int .i64 0)]) := by kernel_rfl
theorem one39 : oneB Try.prog 39 = true := by kernel_rfl
theorem sz40 : (Try.prog.info? 40).map (·.size) = some 1 := by kernel_rfl
theorem z40 : (Try.prog.info? 40).bind (·.zero) = some .nilFunc := by kernel_rfl
theorem one40 : oneB Try.prog 40 = true := by kernel_rfl
theorem sz41 : (Try.prog.info? 41).map (·.size) = some 4 := by kernel_rfl
theorem z41 : (Try.prog.info? 41).bind (·.zero) = some (.agg #[(.bool false), (.slice none 0 0), (.slice none 0 0), (.int .u64 0)]) := by kernel_rfl
theorem agg41 : aggB Try.prog 41 4 = true := by kernel_rfl
theorem pl41 : structPlaces Try.prog 41 = some [(0, 1), (1, 1), (2, 1), (3, 1)] := by kernel_rfl
theorem fl41_0 : fieldB Try.prog 41 0 0 = true := by kernel_rfl
theorem fl41_1 : fieldB Try.prog 41 1 1 = true := by kernel_rfl
theorem fl41_2 : fieldB Try.prog 41 2 2 = true := by kernel_rfl
theorem fl41_3 : fieldB Try.prog 41 3 3 = true := by kernel_rfl
theorem sz42 : (Try.prog.info? 42).map (·.size) = some 4 := by kernel_rfl
theorem z42 : (Try.prog.info? 42).bind (·.zero) = some (.agg #[(.bool false), (.slice none 0 0), (.slice none 0 0), (.int .u64 0)]) := by kernel_rfl
theorem agg42 : aggB Try.prog 42 4 = true := by kernel_rfl
theorem pl42 : structPlaces Try.prog 42 = some [(0, 1), (1, 1), (2, 1), (3, 1)] := by kernel_rfl
theorem fl42_0 : fieldB Try.prog 42 0 0 = true := by kernel_rfl
theorem fl42_1 : fieldB Try.prog 42 1 1 = true := by kernel_rfl
theorem fl42_2 : fieldB Try.prog 42 2 2 = true := by kernel_rfl
theorem fl42_3 : fieldB Try.prog 42 3 3 = true := by kernel_rfl
theorem sz43 : (Try.prog.info? 43).map (·.size) = some 1 := by kernel_rfl
theorem z43 : (Try.prog.info? 43).bind (·.zero) = some .nilFunc := by kernel_rfl
theorem one43 : oneB Try.prog 43 = true := by kernel_rfl
theorem sz44 : (Try.prog.info? 44).map (·.size) = some 1 := by kernel_rfl
theorem z44 : (Try.prog.info? 44).bind (·.zero) = some (.tuple #[(.agg #[(.slice none 0 0), (.int .u64 0), (.int .u64 0)]), (.int .i64 0)]) := by kernel_rfl
theorem one44 : oneB Try.prog 44 = true := by kernel_rfl
theorem sz45 : (Try.prog.info? 45).map (·.size) = some 1 := by kernel_rfl
theorem z45 : (Try.prog.info? 45).bind (·.zero) = some .nilFunc := by kernel_rfl
theorem one45 : oneB Try.prog 45 = true := by kernel_rfl
theorem sz46 : (Try.prog.info? 46).map (·.size) = some 1 := by kernel_rfl
theorem z46 : (Try.prog.info? 46).bind (·.zero) = some .nilFunc := by kernel_rfl
theorem one46 : oneB Try.prog 46 = true := by kernel_rfl
theorem sz47 : (Try.prog.info? 47).map (·.size) = some 1 := by kernel_rfl
theorem z47 : (Try.prog.info? 47).bind (·.zero) = some .nilFunc := by kernel_rfl
theorem one47 : oneB Try.prog 47 = true := by kernel_rfl
theorem sz48 : (Try.prog.info? 48).map (·.size) = some 1 := by kernel_rfl
theorem z48 : (Try.prog.info? 48).bind (·.zero) = some .nilFunc := by kernel_rfl
theorem one48 : oneB Try.prog 48 = true := by kernel_rfl
theorem sz49 : (Try.prog.info? 49).map (·.size) = some 1 := by kernel_rfl
theorem z49 : (Try.prog.info? 49).bind (·.zero) = some (.slice none 0 0) := by kernel_rfl
theorem one49 : oneB Try.prog 49 = true := by kernel_rfl
theorem sl49 : sliceB Try.prog 49 5 1 1 = true := by kernel_rfl
theorem sz50 : (Try.prog.info? 50).map (·.size) = some 4 := by kernel_rfl
theorem z50 : (Try.prog.info? 50).bind (·.zero) = some (.agg #[(.slice none 0 0), (.slice none 0 0), (.int .i64 0), (.int .i64 0)]) := by kernel_rfl
theorem agg50 : aggB Try.prog 50 4 = true := by kernel_rfl
theorem pl50 : structPlaces Try.prog 50 = some [(0, 1), (1, 1), (2, 1), (3, 1)] := by kernel_rfl
theorem fl50_0 : fieldB Try.prog 50 0 0 = true := by kernel_rfl
theorem fl50_1 : fieldB Try.prog 50 1 1 = true := by kernel_rfl
theorem fl50_2 : fieldB Try.prog 50 2 2 = true := by kernel_rfl
theorem fl50_3 : fieldB Try.prog 50 3 3 = true := by kernel_rfl
theorem sz51 : (Try.prog.info? 51).map (·.size) = some 4 := by kernel_rfl
theorem z51 : (Try.prog.info? 51).bind (·.zero) = some (.agg #[(.slice none 0 0), (.slice none 0 0), (.int .i64 0), (.int .i64 0)]) := by kernel_rfl
theorem agg51 : aggB Try.prog 51 4 = true := by kernel_rfl
theorem pl51 : structPlaces Try.prog 51 = some [(0, 1), (1, 1), (2, 1), (3, 1)] := by kernel_rfl
theorem fl51_0 : fieldB Try.prog 51 0 0 = true := by kernel_rfl
theorem fl51_1 : fieldB Try.prog 51 1 1 = true := by kernel_rfl
theorem fl51_2 : fieldB Try.prog 51 2 2 = true := by kernel_rfl
theorem fl51_3 : fieldB Try.prog 51 3 3 = true := by kernel_rfl
theorem sz52 : (Try.prog.info? 52).map (·.size) = some 6 := by kernel_rfl
theorem z52 : (Try.prog.info? 52).bind (·.zero) = some (.agg #[(.slice none 0 0), (.slice none 0 0), (.int .i64 0), (.int .i64 0), (.int .u64 0), (.int .i64 0)]) := by kernel_rfl
theorem agg52 : aggB Try.prog 52 6 = true := by kernel_rfl
theorem pl52 : structPlaces Try.prog 52 = some [(0, 4), (4, 1), (5, 1)] := by kernel_rfl
theorem fl52_0 : fieldB Try.prog 52 0 0 = true := by kernel_rfl
theorem fl52_1 : fieldB Try.prog 52 1 4 = true := by kernel_rfl
theorem fl52_2 : fieldB Try.prog 52 2 5 = true := by kernel_rfl
theorem sz53 : (Try.prog.info? 53).map (·.size) = some 6 := by kernel_rfl
theorem z53 : (Try.prog.info? 53).bind (·.zero) = some (.agg #[(.slice none 0 0), (.slice none 0 0), (.int .i64 0), (.int .i64 0), (.int .u64 0), (.int .i64 0)]) := by kernel_rfl
theorem agg53 : aggB Try.prog 53 6 = true := by kernel_rfl
theorem pl53 : structPlaces Try.prog 53 = some [(0, 4), (4, 1), (5, 1)] := by kernel_rfl
theorem fl53_0 : fieldB Try.prog 53 0 0 = true := by kernel_rfl
theorem fl53_1 : fieldB Try.prog 53 1 4 = true := by kernel_rfl
theorem fl53_2 : fieldB Try.prog 53 2 5 = true := by kernel_rfl
theorem sz54 : (Try.prog.info? 54).map (·.size) = some 6 := by kernel_rfl
theorem z54 : (Try.prog.info? 54).bind (·.zero) = some (.agg #[(.int .u64 0), (.int .i64 0), (.slice none 0 0), (.slice none 0 0), (.int .i64 0), (.int .i64 0)]) := by kernel_rfl
theorem agg54 : aggB Try.prog 54 6 = true := by kernel_rfl
theorem pl54 : structPlaces Try.prog 54 = some [(0, 1), (1, 1), (2, 1), (3, 1), (4, 1), (5, 1)] := by kernel_rfl
theorem fl54_0 : fieldB Try.prog 54 0 0 = true := by kernel_rfl
theorem fl54_1 : fieldB Try.prog 54 1 1 = true := by kernel_rfl
theorem fl54_2 : fieldB Try.prog 54 2 2 = true := by kernel_rfl
theorem fl54_3 : fieldB Try.prog 54 3 3 = true := by kernel_rfl
theorem fl54_4 : fieldB Try.prog 54 4 4 = true := by kernel_rfl
theorem fl54_5 : fieldB Try.prog 54 5 5 = true := by kernel_rfl
theorem sz55 : (Try.prog.info? 55).map (·.size) = some 6 := by kernel_rfl
theorem z55 : (Try.prog.info? 55).bind (·.zero) = some (.agg #[(.int .u64 0), (.int .i64 0), (.slice none 0 0), (.slice none 0 0), (.int .i64 0), (.int .i64 0)]) := by kernel_rfl
theorem agg55 : aggB Try.prog 55 6 = true := by kernel_rfl
theorem pl55 : structPlaces Try.prog 55 = some [(0, 1), (1, 1), (2, 1), (3, 1), (4, 1), (5, 1)] := by kernel_rfl
theorem fl55_0 : fieldB Try.prog 55 0 0 = true := by kernel_rfl
theorem fl55_1 : fieldB Try.prog 55 1 1 = true := by kernel_rfl
theorem fl55_2 : fieldB Try.prog 55 2 2 = true := by kernel_rfl
theorem fl55_3 : fieldB Try.prog 55 3 3 = true := by kernel_rfl
theorem fl55_4 : fieldB Try.prog 55 4 4 = true := by kernel_rfl
theorem fl55_5 : fieldB Try.prog 55 5 5 = true := by kernel_rfl
theorem sz56 : (Try.prog.info? 56).map (·.size) = some 1 := by kernel_rfl
theorem z56 : (Try.prog.info? 56).bind (·.zero) = some .nilFunc := by kernel_rfl
theorem one56 : oneB Try.prog 56 = true := by kernel_rfl
theorem sz57 : (Try.prog.info? 57).map (·.size) = some 1 := by kernel_rfl
theorem z57 : (Try.prog.info? 57).bind (·.zero) = some .nilFunc := by kernel_rfl
theorem one57 : oneB Try.prog 57 = true := by kernel_rfl
theorem sz58 : (Try.prog.info? 58).map (·.size) = some 1 := by kernel_rfl
theorem z58 : (Try.prog.info? 58).bind (·.zero) = some (.map none) := by kernel_rfl
theorem one58 : oneB Try.prog 58 = true := by kernel_rfl
theorem map58 : Try.prog.underlying 58 = some (.map 23 3) := by kernel_rfl
theorem sz59 : (Try.prog.info? 59).map (·.size) = some 1 := by kernel_rfl
theorem z59 : (Try.prog.info? 59).bind (·.zero) = some .nilFunc := by kernel_rfl
theorem one59 : oneB Try.prog 59 = true := by kernel_rfl
theorem sz60 : (Try.prog.info? 60).map (·.size) = some 1 := by kernel_rfl
theorem z60 : (Try.prog.info? 60).bind (·.zero) = some .nilFunc := by kernel_rfl
theorem one60 : oneB Try.prog 60 = true := by kernel_rfl
theorem sz61 : (Try.prog.info? 61).map (·.size) = some 1 := by kernel_rfl
theorem z61 : (Try.prog.info? 61).bind (·.zero) = some .nilFunc := by kernel_rfl
theorem one61 : oneB Try.prog 61 = true := by kernel_rfl
theorem sz62 : (Try.prog.info? 62).map (·.size) = some 1 := by kernel_rfl
theorem z62 : (Try.prog.info? 62).bind (·.zero) = some .nilFunc := by kernel_rfl
theorem one62 : oneB Try.prog 62 = true := by kernel_rfl
theorem sz63 : (Try.prog.info? 63).map (·.size) = some 1 := by kernel_rfl
theorem z63 : (Try.prog.info? 63).bind (·.zero) = some .nilFunc := by kernel_rfl
theorem one63 : oneB Try.prog 63 = true := by kernel_rfl
theorem sz64 : (Try.prog.info? 64).map (·.size) = some 1 := by kernel_rfl
theorem z64 : (Try.prog.info? 64).bind (·.zero) = some .nilFunc := by kernel_rfl
theorem one64 : oneB Try.prog 64 = true := by kernel_rfl
theorem sz65 : (Try.prog.info? 65).map (·.size) = some 1 := by kernel_rfl
theorem z65 : (Try.prog.info? 65).bind (·.zero) = some .nilFunc := by kernel_rfl
theorem one65 : oneB Try.prog 65 = true := by kernel_rfl
theorem sz66 : (Try.prog.info? 66).map (·.size) = some 1 := by kernel_rfl
theorem z66 : (Try.prog.info? 66).bind (·.zero) = some .nilFunc := by kernel_rfl
theorem one66 : oneB Try.prog 66 = true := by kernel_rfl
theorem sz67 : (Try.prog.info? 67).map (·.size) = some 1 := by kernel_rfl
theorem z67 : (Try.prog.info? 67).bind (·.zero) = some .nilFunc := by kernel_rfl
theorem one67 : oneB Try.prog 67 = true := by kernel_rfl
theorem sz68 : (Try.prog.info? 68).map (·.size) = some 1 := by kernel_rfl
theorem z68 : (Try.prog.info? 68).bind (·.zero) = some .nilFunc := by kernel_rfl
theorem one68 : oneB Try.prog 68 = true := by kernel_rfl
theorem sz69 : (Try.prog.info? 69).map (·.size) = some 1 := by kernel_rfl
theorem z69 : (Try.prog.info? 69).bind (·.zero) = some .nilFunc := by kernel_rfl
theorem one69 : oneB Try.prog 69 = true := by kernel_rfl
theorem sz70 : (Try.prog.info? 70).map (·.size) = some 1 := by kernel_rfl
theorem z70 : (Try.prog.info? 70).bind (·.zero) = some .nilFunc := by kernel_rfl
theorem one70 : oneB Try.prog 70 = true := by kernel_rfl
theorem sz71 : (Try.prog.info? 71).map (·.size) = some 1 := by kernel_rfl
theorem z71 : (Try.prog.info? 71).bind (·.zero) = some .nilFunc := by kernel_rfl
theorem one71 : oneB Try.prog 71 = true := by kernel_rfl
theorem sz72 : (Try.prog.info? 72).map (·.size) = some 1 := by kernel_rfl
theorem z72 : (Try.prog.info? 72).bind (·.zero) = some .nilFunc := by kernel_rfl
theorem one72 : oneB Try.prog 72 = true := by kernel_rfl
theorem sz73 : (Try.prog.info? 73).map (·.size) = some 1 := by kernel_rfl
theorem z73 : (Try.prog.info? 73).bind (·.zero) = some .nilFunc := by kernel_rfl
theorem one73 : oneB Try.prog 73 = true := by kernel_rfl
theorem sz74 : (Try.prog.info? 74).map (·.size) = some 1 := by kernel_rfl
theorem z74 : (Try.prog.info? 74).bind (·.zero) = some .nilFunc := by kernel_rfl
theorem one74 : oneB Try.prog 74 = true := by kernel_rfl
theorem sz75 : (Try.prog.info? 75).map (·.size) = some 1 := by kernel_rfl
theorem z75 : (Try.prog.info? 75).bind (·.zero) = some .nilFunc := by kernel_rfl
theorem one75 : oneB Try.prog 75 = true := by kernel_rfl
theorem sz76 : (Try.prog.info? 76).map (·.size) = some 1 := by kernel_rfl
theorem z76 : (Try.prog.info? 76).bind (·.zero) = some .nilFunc := by kernel_rfl
theorem one76 : oneB Try.prog 76 = true := by kernel_rfl
theorem sz77 : (Try.prog.info? 77).map (·.size) = some 1 := by kernel_rfl
theorem z77 : (Try.prog.info? 77).bind (·.zero) = some .nilFunc := by kernel_rfl
theorem one77 : oneB Try.prog 77 = true := by kernel_rfl
theorem sz78 : (Try.prog.info? 78).map (·.size) = some 1 := by kernel_rfl
theorem z78 : (Try.prog.info? 78).bind (·.zero) = some (.slice none 0 0) := by kernel_rfl
theorem one78 : oneB Try.prog 78 = true := by kernel_rfl
theorem sl78 : sliceB Try.prog 78 3 1 8 = true := by kernel_rfl
theorem sz79 : (Try.prog.info? 79).map (·.size) = some 1 := by kernel_rfl
theorem z79 : (Try.prog.info? 79).bind (·.zero) = some .nilFunc := by kernel_rfl
theorem one79 : oneB Try.prog 79 = true := by kernel_rfl
theorem sz80 : (Try.prog.info? 80).map (·.size) = some 1 := by kernel_rfl
theorem z80 : (Try.prog.info? 80).bind (·.zero) = some .nilFunc := by kernel_rfl
theorem one80 : oneB Try.prog 80 = true := by kernel_rfl
theorem sz81 : (Try.prog.info? 81).map (·.size) = some 1 := by kernel_rfl
theorem z81 : (Try.prog.info? 81).bind (·.zero) = some .nilFunc := by kernel_rfl
theorem one81 : oneB Try.prog 81 = true := by kernel_rfl
theorem sz82 : (Try.prog.info? 82).map (·.size) = some 1 := by kernel_rfl
theorem z82 : (Try.prog.info? 82).bind (·.zero) = some (.int .u64 0) := by kernel_rfl
theorem one82 : oneB Try.prog 82 = true := by kernel_rfl
theorem int82 : Try.prog.underlying 82 = some (.int .u64) := by kernel_rfl
theorem sz83 : (Try.prog.info? 83).map (·.size) = some 1 := by kernel_rfl
theorem z83 : (Try.prog.info? 83).bind (·.zero) = some .nilFunc := by kernel_rfl
theorem one83 : oneB Try.prog 83 = true := by kernel_rfl
theorem sz84 : (Try.prog.info? 84).map (·.size) = some 4 := by kernel_rfl
theorem z84 : (Try.prog.info? 84).bind (·.zero) = some (.agg #[(.pointer none), (.pointer none), (.pointer none), (.string ⟨#[]⟩)]) := by kernel_rfl
theorem agg84 : aggB Try.prog 84 4 = true := by kernel_rfl
theorem pl84 : structPlaces Try.prog 84 = some [(0, 1), (1, 1), (2, 1), (3, 1)] := by kernel_rfl
theorem fl84_0 : fieldB Try.prog 84 0 0 = true := by kernel_rfl
theorem fl84_1 : fieldB Try.prog 84 1 1 = true := by kernel_rfl
theorem fl84_2 : fieldB Try.prog 84 2 2 = true := by kernel_rfl
theorem fl84_3 : fieldB Try.prog 84 3 3 = true := by kernel_rfl
theorem sz85 : (Try.prog.info? 85).map (·.size) = some 4 := by kernel_rfl
theorem z85 : (Try.prog.info? 85).bind (·.zero) = some (.agg #[(.pointer none), (.pointer none), (.pointer none), (.string ⟨#[]⟩)]) := by kernel_rfl
theorem agg85 : aggB Try.prog 85 4 = true := by kernel_rfl
theorem pl85 : structPlaces Try.prog 85 = some [(0, 1), (1, 1), (2, 1), (3, 1)] := by kernel_rfl
theorem fl85_0 : fieldB Try.prog 85 0 0 = true := by kernel_rfl
theorem fl85_1 : fieldB Try.prog 85 1 1 = true := by kernel_rfl
theorem fl85_2 : fieldB Try.prog 85 2 2 = true := by kernel_rfl
theorem fl85_3 : fieldB Try.prog 85 3 3 = true := by kernel_rfl
theorem sz86 : (Try.prog.info? 86).map (·.size) = some 0 := by kernel_rfl
theorem z86 : (Try.prog.info? 86).bind (·.zero) = some (.agg #[]) := by kernel_rfl
theorem agg86 : aggB Try.prog 86 0 = true := by kernel_rfl
theorem sz87 : (Try.prog.info? 87).map (·.size) = some 0 := by kernel_rfl
theorem z87 : (Try.prog.info? 87).bind (·.zero) = some (.agg #[]) := by kernel_rfl
theorem agg87 : aggB Try.prog 87 0 = true := by kernel_rfl
theorem pl87 : structPlaces Try.prog 87 = some [(0, 0)] := by kernel_rfl
theorem sz88 : (Try.prog.info? 88).map (·.size) = some 0 := by kernel_rfl
theorem z88 : (Try.prog.info? 88).bind (·.zero) = some (.agg #[]) := by kernel_rfl
theorem agg88 : aggB Try.prog 88 0 = true := by kernel_rfl
theorem pl88 : structPlaces Try.prog 88 = some [(0, 0)] := by kernel_rfl
theorem sz89 : (Try.prog.info? 89).map (·.size) = some 1 := by kernel_rfl
theorem z89 : (Try.prog.info? 89).bind (·.zero) = some .nilFunc := by kernel_rfl
theorem one89 : oneB Try.prog 89 = true := by kernel_rfl
theorem sz90 : (Try.prog.info? 90).map (·.size) = some 1 := by kernel_rfl
theorem z90 : (Try.prog.info? 90).bind (·.zero) = some (.int .u32 0) := by kernel_rfl
theorem one90 : oneB Try.prog 90 = true := by kernel_rfl
theorem int90 : Try.prog.underlying 90 = some (.int .u32) := by kernel_rfl
theorem sz91 : (Try.prog.info? 91).map (·.size) = some 1 := by kernel_rfl
theorem z91 : (Try.prog.info? 91).bind (·.zero) = some (.int .u8 0) := by kernel_rfl
theorem one91 : oneB Try.prog 91 = true := by kernel_rfl
theorem int91 : Try.prog.underlying 91 = some (.int .u8) := by kernel_rfl
theorem sz92 : (Try.prog.info? 92).map (·.size) = some 1 := by kernel_rfl
theorem z92 : (Try.prog.info? 92).bind (·.zero) = some (.int .u8 0) := by kernel_rfl
theorem one92 : oneB Try.prog 92 = true := by kernel_rfl
theorem int92 : Try.prog.underlying 92 = some (.int .u8) := by kernel_rfl
theorem sz93 : (Try.prog.info? 93).map (·.size) = some 1 := by kernel_rfl
theorem z93 : (Try.prog.info? 93).bind (·.zero) = some .nilFunc := by kernel_rfl
theorem one93 : oneB Try.prog 93 = true := by kernel_rfl
theorem sz94 : (Try.prog.info? 94).map (·.size) = some 1 := by kernel_rfl
theorem z94 : (Try.prog.info? 94).bind (·.zero) = some (.pointer none) := by kernel_rfl
theorem one94 : oneB Try.prog 94 = true := by kernel_rfl
theorem sz95 : (Try.prog.info? 95).map (·.size) = some 1 := by kernel_rfl
theorem z95 : (Try.prog.info? 95).bind (·.zero) = some (.int .i32 0) := by kernel_rfl
theorem one95 : oneB Try.prog 95 = true := by kernel_rfl
theorem int95 : Try.prog.underlying 95 = some (.int .i32) := by kernel_rfl
theorem sz96 : (Try.prog.info? 96).map (·.size) = some 1 := by kernel_rfl
theorem z96 : (Try.prog.info? 96).bind (·.zero) = some (.int .i32 0) := by kernel_rfl
theorem one96 : oneB Try.prog 96 = true := by kernel_rfl
theorem int96 : Try.prog.underlying 96 = some (.int .i32) := by kernel_rfl
theorem sz97 : (Try.prog.info? 97).map (·.size) = some 11 := by kernel_rfl
theorem z97 : (Try.prog.info? 97).bind (·.zero) = some (.agg #[(.int .u64 0), (.int .u64 0), (.int .u32 0), (.int .u8 0), (.int .u8 0), (.int .u8 0), (.int .u8 0), .nilFunc, (.pointer none), (.int .i32 0), (.int .i32 0)]) := by kernel_rfl
theorem agg97 : aggB Try.prog 97 11 = true := by kernel_rfl
theorem pl97 : structPlaces Try.prog 97 = some [(0, 1), (1, 1), (2, 1), (3, 1), (4, 1), (5, 1), (6, 1), (7, 1), (8, 1), (9, 1), (10, 1)] := by kernel_rfl
theorem fl97_0 : fieldB Try.prog 97 0 0 = true := by kernel_rfl
theorem fl97_1 : fieldB Try.prog 97 1 1 = true := by kernel_rfl
theorem fl97_2 : fieldB Try.prog 97 2 2 = true := by kernel_rfl
theorem fl97_3 : fieldB Try.prog 97 3 3 = true := by kernel_rfl
theorem fl97_4 : fieldB Try.prog 97 4 4 = true := by kernel_rfl
theorem fl97_5 : fieldB Try.prog 97 5 5 = true := by kernel_rfl
theorem fl97_6 : fieldB Try.prog 97 6 6 = true := by kernel_rfl
theorem fl97_7 : fieldB Try.prog 97 7 7 = true := by kernel_rfl
theorem fl97_8 : fieldB Try.prog 97 8 8 = true := by kernel_rfl
theorem fl97_9 : fieldB Try.prog 97 9 9 = true := by kernel_rfl
theorem fl97_10 : fieldB Try.prog 97 10 10 = true := by kernel_rfl
theorem sz98 : (Try.prog.info? 98).map (·.size) = some 11 := by kernel_rfl
theorem z98 : (Try.prog.info? 98).bind (·.zero) = some (.agg #[(.int .u64 0), (.int .u64 0), (.int .u32 0), (.int .u8 0), (.int .u8 0), (.int .u8 0), (.int .u8 0), .nilFunc, (.pointer none), (.int .i32 0), (.int .i32 0)]) := by kernel_rfl
theorem agg98 : aggB Try.prog 98 11 = true := by kernel_rfl
theorem pl98 : structPlaces Try.prog 98 = some [(0, 1), (1, 1), (2, 1), (3, 1), (4, 1), (5, 1), (6, 1), (7, 1), (8, 1), (9, 1), (10, 1)] := by kernel_rfl
theorem fl98_0 : fieldB Try.prog 98 0 0 = true := by kernel_rfl
theorem fl98_1 : fieldB Try.prog 98 1 1 = true := by kernel_rfl
theorem fl98_2 : fieldB Try.prog 98 2 2 = true := by kernel_rfl
theorem fl98_3 : fieldB Try.prog 98 3 3 = true := by kernel_rfl
theorem fl98_4 : fieldB Try.prog 98 4 4 = true := by kernel_rfl
theorem fl98_5 : fieldB Try.prog 98 5 5 = true := by kernel_rfl
theorem fl98_6 : fieldB Try.prog 98 6 6 = true := by kernel_rfl
theorem fl98_7 : fieldB Try.prog 98 7 7 = true := by kernel_rfl
theorem fl98_8 : fieldB Try.prog 98 8 8 = true := by kernel_rfl
theorem fl98_9 : fieldB Try.prog 98 9 9 = true := by kernel_rfl
theorem fl98_10 : fieldB Try.prog 98 10 10 = true := by kernel_rfl
theorem sz99 : (Try.prog.info? 99).map (·.size) = some 1 := by kernel_rfl
theorem z99 : (Try.prog.info? 99).bind (·.zero) = some (.pointer none) := by kernel_rfl
theorem one99 : oneB Try.prog 99 = true := by kernel_rfl
theorem body2 : bodyB Try.prog 2 := Try.call2
theorem body3 : bodyB Try.prog 3 := Try.call3
theorem body4 : bodyB Try.prog 4 := Try.call4
theorem body5 : bodyB Try.prog 5 := Try.call5
theorem body6 : bodyB Try.prog 6 := Try.call6
theorem body7 : bodyB Try.prog 7 := Try.call7
theorem body8 : bodyB Try.prog 8 := Try.call8
theorem body9 : bodyB Try.prog 9 := Try.call9
theorem body10 : bodyB Try.prog 10 := Try.call10
theorem body11 : bodyB Try.prog 11 := Try.call11
theorem body12 : bodyB Try.prog 12 := Try.call12
theorem body13 : bodyB Try.prog 13 := Try.call13
theorem body14 : bodyB Try.prog 14 := Try.call14
theorem body15 : bodyB Try.prog 15 := Try.call15
theorem body16 : bodyB Try.prog 16 := Try.call16
theorem body17 : bodyB Try.prog 17 := Try.call17
theorem body18 : bodyB Try.prog 18 := Try.call18
theorem body19 : bodyB Try.prog 19 := Try.call19
theorem body20 : bodyB Try.prog 20 := Try.call20
theorem body21 : bodyB Try.prog 21 := Try.call21
theorem body22 : bodyB Try.prog 22 := Try.call22
theorem body23 : bodyB Try.prog 23 := Try.call23
theorem body24 : bodyB Try.prog 24 := Try.call24
theorem body25 : bodyB Try.prog 25 := Try.call25
theorem body26 : bodyB Try.prog 26 := Try.call26
theorem body27 : bodyB Try.prog 27 := Try.call27
theorem body28 : bodyB Try.prog 28 := Try.call28
theorem body29 : bodyB Try.prog 29 := Try.call29
theorem body30 : bodyB Try.prog 30 := Try.call30
theorem body31 : bodyB Try.prog 31 := Try.call31
theorem body32 : bodyB Try.prog 32 := Try.call32
theorem body33 : bodyB Try.prog 33 := Try.call33
theorem body34 : bodyB Try.prog 34 := Try.call34
theorem body35 : bodyB Try.prog 35 := Try.call35
theorem body36 : bodyB Try.prog 36 := Try.call36
theorem body37 : bodyB Try.prog 37 := Try.call37
theorem body38 : bodyB Try.prog 38 := Try.call38
theorem body40 : bodyB Try.prog 40 := Try.call40
theorem body41 : bodyB Try.prog 41 := Try.call41
theorem body42 : bodyB Try.prog 42 := Try.call42
theorem body43 : bodyB Try.prog 43 := Try.call43
theorem body44 : bodyB Try.prog 44 := Try.call44
theorem body45 : bodyB Try.prog 45 := Try.call45
theorem body46 : bodyB Try.prog 46 := Try.call46
theorem mixed : Try.prog.follows .mixedOrders = true := by kernel_rfl

end Go.Proofs.Ytodkbhbbdnjlcaa
