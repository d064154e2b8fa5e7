/- Proved here: the part ROW of the proof that the law of this seat returns true for every input; no condition. -/
import Derived.Test.YtodkbhbbdnjlcaaRN
import Derived.Test.YtodkbhbbdnjlcaaRows
import Derived.ProofKit
import Derived.SizedLaws
set_option maxRecDepth 20000
set_option linter.unusedVariables false
set_option linter.unusedSimpArgs false
namespace Go.Proofs.Ytodkbhbbdnjlcaa
open Go.ChangeShapes Go.WideShapes Go.ChangeAt Go.RowKit Go.Gl


theorem Try.own : ownKnob Try.prog.godebug = none := by kernel_rfl
theorem Try.laidOut : laidOutB Try.prog = true := by kernel_rfl
theorem u25 : ∃ fs, Try.prog.underlying 25 = some (.struct fs) := by
  obtain ⟨fs, h, _⟩ := st25
  exact ⟨fs, h⟩
theorem lifted (os : Os) (started : os.Started) (H : Type) (enc : TypeId × Value → H) :
    ReturnsInHanded {} Try.checked os 3 .any (Rows.manifestAppliesSpec.pre6 enc Try.prog Try.f3 Rows.manifestAppliesRow.domain false) (Rows.manifestAppliesSpec.post enc Try.prog Try.f3 false true false false) := by
  refine returnsInHanded_of_change_sized (C := Try.checked) Try.own started (by kernel_rfl) Try.func3
    (ChangeSpec.witness6 (enc := enc) (C := Try.checked) false ⟨#[], #[.agg #[.slice none 0 0, .int .u64 0, .int .u64 0], .slice none 0 0], []⟩ 8 (by kernel_rfl) (by kernel_rfl) (by kernel_rfl) (by kernel_rfl)) ?_
  intro W base args ds gs before hval0 hW _ hsz0 _
  have hsz : (DataW.weightsEach Try.prog (Try.f3.params.toList ++ Rows.manifestAppliesSpec.plain.varTypes Try.prog) (ds ++ gs)).all (· ≤ reachBytes) = true := hsz0
  clear hsz0
  have hval : ∀ (j : Nat) t v, Try.f3.params[j]? = some t → args[j]? = some v → Value.okWide Try.prog W .any base t v := hval0
  have hW' := hW
  obtain ⟨p, q, hA0, hV, rfl, _, _⟩ := hW
  have hA : DataW.TrodAll enc Try.prog W 0 (fun _ => true) true Try.f3.params.toList args.toList ds p := hA0
  rw [Try.params3] at hA hval hsz
  obtain ⟨v0, v1, d0, d1, p0, p1, rfl, rfl, rfl, h0, h1⟩ := trodAll_two hA
  obtain ⟨rfl, rfl⟩ := trodVars_none hV
  have hwt : ∀ y ∈ DataW.weightsEach Try.prog ([25, 26] ++ Rows.manifestAppliesSpec.plain.varTypes Try.prog) ([d0, d1] ++ []), y ≤ reachBytes := fun y hy => by simpa using List.all_eq_true.1 hsz y hy
  obtain ⟨fs, hu25⟩ := u25
  obtain ⟨cs, rfl, _⟩ := okWide_struct hu25 (hval 0 25 v0 rfl rfl)
  obtain ⟨a0, len, cap, rfl⟩ := okWide_slice u26 (hval 1 26 v1 rfl rfl)
  have h0k := h0
  have h1k := h1
  obtain ⟨f0, hf0⟩ := h0
  obtain ⟨f1, hf1⟩ := h1
  have r0 : Reads enc Try.prog W true 25 cs.toList := ⟨f0, _, hf0, wt_each hwt 0 25 d0 rfl rfl⟩
  have r1 : Reads enc Try.prog W true 26 [.slice a0 len cap] := ⟨f1, _, hf1, wt_each hwt 1 26 d1 rfl rfl⟩
  obtain ⟨r, hr, hri⟩ := reads_version r0
  obtain ⟨a, n, c, es, he, hre, hei⟩ := reads_edits r1
  simp only [List.cons.injEq, Value.slice.injEq, and_true] at he
  obtain ⟨rfl, rfl, rfl⟩ := he
  have hcs : cs = (vcells r.h r.nx r.sq).toArray := by rw [← hr]
  subst hcs
  clear hA0 hval0
  simp only [List.append_nil] at hW'
  have hlt : ∀ x ∈ p0 ++ p1, x.block < W.heap.size := fun x hx => by simpa using hW'.lt x (by simpa using hx)
  refine (l_law hri hre hei (ghAll W) [] (.refl _) (.refl _) W (st_all W)).mono fun e W' hret => ?_
  obtain ⟨K, N, v, rfl, hs, hk, rfl, rfl⟩ := hret
  have hb := below_of_st hk hs
  refine ⟨_, rfl, _, _, _, [], p0 ++ p1, [], hW', ?_, ?_, rfl, hb.frame _, fun h => by cases h⟩
  · exact trodAll_mk1 (shut_bool Try.underlying4 true)
  · exact trodAll_mk2 (Below.trod Try.laidOut (by kernel_rfl) (of_decide_eq_true (by kernel_rfl)) h0k hb (fun x hx => hlt x (by simp [hx]))) (Below.trod Try.laidOut (by kernel_rfl) (of_decide_eq_true (by kernel_rfl)) h1k hb (fun x hx => hlt x (by simp [hx])))
theorem manifest_applies : Rows.ManifestAppliesSaid :=
  OpenClaim.holds_of_wide 3 Try.f3 rfl rfl rfl rfl rfl rfl rfl ⟨rfl, rfl, rfl, rfl, rfl⟩ rfl rfl rfl rfl rfl (by kernel_rfl) Try.func3 (by kernel_rfl)
    (of_decide_eq_true (by kernel_rfl)) (by unfold Func.isWrapper; rw [if_neg (of_decide_eq_false (by kernel_rfl))]; exact ⟨rfl, rfl⟩)
    (fun os started H enc _ => lifted os started H enc)


end Go.Proofs.Ytodkbhbbdnjlcaa
