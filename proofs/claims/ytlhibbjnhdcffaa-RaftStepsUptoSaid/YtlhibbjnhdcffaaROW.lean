/- Proved here: the part ROW of the proof that the law of this seat returns true for every input; no condition. -/
import Derived.Test.YtlhibbjnhdcffaaRN
import Derived.Test.YtlhibbjnhdcffaaY1
import Derived.Test.YtlhibbjnhdcffaaY2
import Derived.Test.YtlhibbjnhdcffaaRows
import Derived.ProofKit
import Derived.SizedLaws
import Derived.JoinedCond
set_option maxRecDepth 20000
set_option linter.unusedVariables false
set_option linter.unusedSimpArgs false
namespace Go.Proofs.Ytlhibbjnhdcffaa
open Go.ChangeShapes Go.WideShapes Go.ChangeAt Go.RowKit Go.Gl Go

section
variable {H : Type} {enc : TypeId × Value → H}
/-- A contract under a condition, the form's reach handed on. -/
theorem returns_cond_sized {a : Assume} {C : Checked} {os : Os} {f : FuncId} {fn : Func} {s : OpenSpec} {k : (H : Type) → List (DataW H) → Bool} (hk : s.cond = some k) {F : Stop.Interp} {conds : List PathCond} {apart fresh handsOn again : Bool}
    (own : ownKnob C.prog.godebug = none) (started : os.Started) (noInit : C.prog.inits.idxOf? f = none) (hfn : C.prog.funcs[f]? = some fn)
    (witness : ∃ (w : World) (tape : Tape) (i : Input), w.os = os ∧ (w.forCall tape i).Shaped C.prog ∧ i.vars = [] ∧ Input.okWide C.prog (w.forCall tape i) .any w.heap.size f i ∧ s.pre6 enc C.prog fn conds apart (w.forCall tape i).memory i.args ∧ a.holds C.prog (lone (Frame.enter C.prog f i.args .normal) [] (w.forCall tape i)))
    (contract : ∀ (W : World) (base : Nat) (args : Array Value) (ds gs : List (DataW H)) (before : List MemPlace), (∀ (j : Nat) t v, fn.params[j]? = some t → args[j]? = some v → Value.okWide C.prog W .any base t v) →
      DataW.Whole enc C.prog fn.params.toList s.vars apart W args.toList ds gs before → k H (ds ++ gs) = true → (DataW.weightsEach C.prog (fn.params.toList ++ s.bare.plain.varTypes C.prog) (ds ++ gs)).all (· ≤ reachBytes) = true →
      Calls C.prog f args W fun e W' => ∃ v, e = .returned v ∧ (s.at F).post enc C.prog fn apart fresh handsOn again W args v W') :
    ReturnsInHanded a C os f .any (s.pre6 enc C.prog fn conds apart) ((s.at F).post enc C.prog fn apart fresh handsOn again) := by
  refine returnsInHanded_of_calls own started noInit witness fun w tape i _ _ _ hok hpre _ => ?_
  obtain ⟨_, _, _, fn', hfn', _, _, _, _, hval⟩ := hok
  obtain rfl : fn' = fn := Option.some.inj (hfn'.symm.trans hfn)
  obtain ⟨ds, gs, before, hw, _, hkk⟩ := (OpenSpec.pre_some hk conds apart _ _).1 hpre.1
  have hw' := DataW.Whole.of_heap (w' := w.forCall tape i) (by rfl) hw
  refine (contract (w.forCall tape i) w.heap.size i.args ds gs before hval hw' hkk (hpre.2.weights hw)).mono fun e W' hq => ?_
  obtain ⟨v, rfl, hp⟩ := hq
  exact ChangeSpec.post_blind hp
end
theorem Try.own : ownKnob Try.prog.godebug = none := by kernel_rfl
theorem Try.laidOut : laidOutB Try.prog = true := by kernel_rfl
theorem steps_true {I : Gh} {L : List Seg} {n : Int} {f : Form} (hf : Form.Ok I f) {s : Sl Note} (hs : FRow rNote I L s) (hb : ∀ x ∈ s.xs, x.abs.Terms.length ≤ 1048576) : PC Try.prog 3 #[.int .i64 n, .agg (f.cells).toArray, s.v] I L fun K v => v = .bool true := by
  by_cases h : newErr 0 n 3 (stateOf (cutF f.abs)) = 0
  · exact l_steps n hf hs h hb
  · exact l_stepsb n hf hs h
theorem lifted (os : Os) (started : os.Started) (H : Type) (enc : TypeId × Value → H) (F : Stop.Interp) :
    ReturnsInHanded {} Try.checked os 3 .any ((Rows.OpenSpec.upto Rows.raftStepsSpec).pre6 enc Try.prog Try.f3 Rows.raftStepsUptoRow.domain false) (((Rows.OpenSpec.upto Rows.raftStepsSpec).at F).post enc Try.prog Try.f3 false true false false) := by
  refine returns_cond_sized (C := Try.checked) (s := Rows.OpenSpec.upto Rows.raftStepsSpec) (k := Rows.uptoSmall) rfl Try.own started (by kernel_rfl) Try.func3
    (OpenSpec.witness (enc := enc) (C := Try.checked) (s := Rows.OpenSpec.upto Rows.raftStepsSpec) (k := Rows.uptoSmall) rfl false ⟨#[], #[.int .i64 0, .agg #[.int .u64 0, .int .i64 0, .int .u64 0, .int .u64 0, .slice none 0 0], .slice none 0 0], []⟩ 8 (by kernel_rfl) (by kernel_rfl) (by kernel_rfl)
      (x := ([.lit (.int .i64 0), .agg [.lit (.int .u64 0), .lit (.int .i64 0), .lit (.int .u64 0), .lit (.int .u64 0), .nil], .nil], [], [])) (by kernel_rfl) (by kernel_rfl) (by kernel_rfl)) ?_
  intro W base args ds gs before hval0 hW hk0 hsz0
  have hsz : (DataW.weightsEach Try.prog (Try.f3.params.toList ++ (Rows.OpenSpec.upto Rows.raftStepsSpec).bare.plain.varTypes Try.prog) (ds ++ gs)).all (· ≤ reachBytes) = true := hsz0
  clear hsz0
  have hval : ∀ (j : Nat) t v, Try.f3.params[j]? = some t → args[j]? = some v → Value.okWide Try.prog W .any base t v := hval0
  have hW' := hW
  obtain ⟨p, q, hA0, hV, rfl, _, _⟩ := hW
  have hA : DataW.TrodAll enc Try.prog W 0 (fun _ => true) true Try.f3.params.toList args.toList ds p := hA0
  rw [Try.params3] at hA hval hsz
  obtain ⟨v0, v1, v2, d0, d1, d2, p0, p1, p2, rfl, rfl, rfl, h0, h1, h2⟩ := trodAll_three hA
  obtain ⟨rfl, rfl⟩ := trodVars_none hV
  have hwt : ∀ y ∈ DataW.weightsEach Try.prog ([3, 25, 26] ++ (Rows.OpenSpec.upto Rows.raftStepsSpec).bare.plain.varTypes Try.prog) ([d0, d1, d2] ++ []), y ≤ reachBytes := fun y hy => by simpa using List.all_eq_true.1 hsz y hy
  have hk : Rows.uptoBulkAll [d0, d1, d2] ≤ 1048576 := by
    have hz : decide (Rows.uptoBulkAll ([d0, d1, d2] ++ []) ≤ 1048576) = true := hk0
    simpa using hz
  obtain ⟨fs, hu25, _⟩ := st25
  obtain ⟨n, rfl⟩ := okWide_int int3 (hval 0 3 v0 rfl rfl)
  obtain ⟨cs, rfl, _⟩ := okWide_struct hu25 (hval 1 25 v1 rfl rfl)
  obtain ⟨a0, len, cap, rfl⟩ := okWide_slice u26 (hval 2 26 v2 rfl rfl)
  have h0k := h0
  have h1k := h1
  have h2k := h2
  obtain ⟨f1, hf1⟩ := h1
  obtain ⟨f2, hf2⟩ := h2
  have hb1 : Rows.uptoBulk d1 ≤ 1048576 := Nat.le_trans (bulk_mem (l := [d0, d1, d2]) (by simp)) hk
  have hb2 : Rows.uptoBulk d2 ≤ 1048576 := Nat.le_trans (bulk_mem (l := [d0, d1, d2]) (by simp)) hk
  have r1 : RB enc Try.prog W true 1048576 25 cs.toList := ⟨f1, _, hf1, wt_each hwt 1 25 d1 rfl rfl, hb1⟩
  have r2 : RB enc Try.prog W true 1048576 26 [.slice a0 len cap] := ⟨f2, _, hf2, wt_each hwt 2 26 d2 rfl rfl, hb2⟩
  obtain ⟨f, hf, hfi⟩ := reads_form r1
  obtain ⟨s, he, hs, hsb⟩ := reads_notes r2
  obtain ⟨⟨sa, sn, sc⟩, sx⟩ := s
  simp only [List.cons.injEq, Sl.v, Value.slice.injEq, and_true] at he
  obtain ⟨rfl, rfl, rfl⟩ := he
  have hcs : cs = (f.cells).toArray := by rw [← hf]
  subst hcs
  clear hA0 hval0
  simp only [List.append_nil] at hW'
  have hlt : ∀ x ∈ p0 ++ (p1 ++ p2), x.block < W.heap.size := fun x hx => by simpa using hW'.lt x (by simpa using hx)
  refine (steps_true hfi hs hsb (ghAll W) [] (.refl _) (.refl _) W (st_all W)).mono fun e W' hret => ?_
  obtain ⟨K, N, v, rfl, hs, hk, rfl, rfl⟩ := hret
  have hb := below_of_st hk hs
  refine ⟨_, rfl, _, _, _, [], p0 ++ (p1 ++ p2), [], hW', ?_, ?_, rfl, hb.frame _, fun h => by cases h⟩
  · exact trodAll_mk1 (shut_bool Try.underlying4 true)
  · exact trodAll_mk3 (Below.trod Try.laidOut (by kernel_rfl) (of_decide_eq_true (by kernel_rfl)) h0k hb (fun x hx => hlt x (by simp [hx]))) (Below.trod Try.laidOut (by kernel_rfl) (of_decide_eq_true (by kernel_rfl)) h1k hb (fun x hx => hlt x (by simp [hx]))) (Below.trod Try.laidOut (by kernel_rfl) (of_decide_eq_true (by kernel_rfl)) h2k hb (fun x hx => hlt x (by simp [hx])))
theorem raft_steps : Rows.RaftStepsUptoSaid :=
  OpenClaim.holds_of_cond 3 Try.f3 rfl rfl rfl rfl rfl rfl rfl ⟨rfl, rfl, rfl, rfl, rfl⟩ rfl rfl rfl rfl rfl (by kernel_rfl) Try.func3 (by kernel_rfl)
    (of_decide_eq_true (by kernel_rfl)) (by unfold Func.isWrapper; rw [if_neg (of_decide_eq_false (by kernel_rfl))]; exact ⟨rfl, rfl⟩)
    (fun os started H enc _ F => lifted os started H enc F)

end Go.Proofs.Ytlhibbjnhdcffaa
