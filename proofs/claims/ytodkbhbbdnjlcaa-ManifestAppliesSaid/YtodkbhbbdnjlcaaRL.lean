/- Proved here: the part RL of the proof that the law of this seat returns true for every input; no condition. -/
import Derived.Test.YtodkbhbbdnjlcaaRS
import Derived.Test.YtodkbhbbdnjlcaaPM
set_option maxRecDepth 20000
set_option linter.unusedVariables false
set_option linter.unusedSimpArgs false
namespace Go.Proofs.Ytodkbhbbdnjlcaa
open Go Go.Gl


def f0 : Fl := ⟨3, 0, 0, 0, [], []⟩
def p0 : PF := ⟨f0, ⟨none, 0, 0⟩, ⟨none, 0, 0⟩⟩
theorem p0_ok (I : Gh) : p0.Ok I := ⟨by decide, by decide, Row.empty _ _ _, Row.empty _ _ _, by decide, by decide⟩
theorem rightM_V0 : rightM V0 = true := (rightM_iff _).2 ⟨fun j f hj => absurd hj (Nat.not_lt_zero _), List.nodup_nil⟩
theorem rightM_f0 : rightM ⟨[f0], 4, 5⟩ = true := by
  refine (rightM_iff _).2 ⟨fun j f hj hf => ?_, by simp⟩
  have h0 : j = 0 := by simp at hj; omega
  subst h0
  simp at hf
  subst hf
  exact ⟨⟨by decide, by decide, by decide, by decide⟩, fun g h => absurd h (Nat.lt_irrefl 0)⟩
theorem awake_adds : addsM [] 0 [f0] = some ([f0], 4) := by
  have h1 : ¬ 0 ≤ idxF (isNum f0.num) [] := by simp [idxF]
  have h2 : nextM 0 f0.num = 4 := by simp [nextM, f0, IntKind.wrap_u64]
  rw [addsM, if_neg h1, h2]
  rfl
theorem awake_law {w : V} {c : Int} (h : ApplyM V0 ⟨false, [f0], [], 5⟩ w c) : c = 0 ∧ w.nx = 4 ∧ w.sq = 5 ∧ w.fs.length = 1 ∧ rightM w = true := by
  have key : ∀ {l l2 nx q}, dropsM (baseV V0 ⟨false, [f0], [], 5⟩).fs [] = some l → addsM l (baseV V0 ⟨false, [f0], [], 5⟩).nx [f0] = some (l2, nx) → q.Perm l2 → q = [f0] ∧ nx = 4 := fun h1 h2 h3 => by
    have e1 : baseV V0 ⟨false, [f0], [], 5⟩ = V0 := rfl
    rw [e1] at h1 h2
    cases h1
    rw [show V0.nx = 0 from rfl, show V0.fs = [] from rfl, awake_adds] at h2
    cases h2
    exact ⟨List.perm_singleton.1 h3, rfl⟩
  cases h with
  | form h => rw [rightM_V0] at h; cases h
  | none _ h => cases h
  | there _ h1 h2 => cases h1; have e3 : addsM [] 0 [f0] = none := h2; rw [awake_adds] at e3; cases e3
  | bad _ h1 h2 h3 _ h4 => obtain ⟨rfl, rfl⟩ := key h1 h2 h3; rw [rightM_f0] at h4; cases h4
  | old _ h1 h2 h3 _ _ h5 => exact absurd h5 (by decide)
  | ok _ h1 h2 h3 _ h4 => obtain ⟨rfl, rfl⟩ := key h1 h2 h3; exact ⟨rfl, rfl, rfl, rfl, h4⟩

theorem l_awake {I : Gh} {L : List Seg} : PC Try.prog 4 #[] I L fun K v => v = .bool true := by
  refine PC.of (n := 33) Try.func4 rfl Try.ntmps4 rfl fun I0 L0 hI0 hL0 => ?_
  refine EW_seq ?_
  -- region 0  law.go:55
  refine EW_region ?_
  refine EL_s rfl rfl rfl (os_assign rfl) ?_
  refine EL_nil ?_
  refine EQ_then (EQ_wp ?_)
  refine EW_seq ?_
  -- region 1  law.go:56
  refine EW_region ?_
  refine EL_s rfl rfl rfl (os_struct (cs := [_, _, _]) [] pl30 z30 rfl rfl) ?_
  refine EL_s rfl rfl rfl (os_struct (cs := [_, _, _, _, _, _]) [(1, _)] pl53 z53 rfl rfl) ?_
  refine EL_a rfl rfl rfl (oa_slice [_] sl28 z53 rfl rfl rfl rfl) ?_; intro b6
  refine EL_freeze (S := [(b6, _)]) pick0 fun I9 hI9 hS1 => ?_
  refine EL_s rfl rfl rfl (os_struct (cs := [_, _, _, _]) [(1, _), (3, _)] pl42 z42 rfl rfl) ?_
  have he0 : Er.Ok pcells I9 ⟨false, ⟨some ⟨b6, 0, none⟩, 1, 1⟩, [p0], ⟨none, 0, 0⟩, [], 5⟩ := ⟨⟨(OwnRow.lit (xs := [pcells p0]) (T := 53) rfl (by simp [pcells]) rfl (by decide)).row fun x hx => .inl (hS1 x hx), fun p hp => (by rw [List.mem_singleton.1 hp]; exact p0_ok _), by dsimp only; decide⟩, Row.empty _ _ _, by dsimp only; decide, by dsimp only; decide, by dsimp only; decide⟩
  have hcon := m_Apply (L := L0) (r := Vr0) (Vr0_ok _ _) he0 (by dsimp only; decide)
  refine EL_g rfl rfl rfl (og_call (vs := [Vr0.v, Er.v ⟨false, ⟨some ⟨b6, 0, none⟩, 1, 1⟩, [p0], ⟨none, 0, 0⟩, [], 5⟩]) body9 rfl hcon) ?_; intro I1 v8 hI1 hv8
  obtain ⟨w, c, rfl, hw, hA⟩ := hv8
  obtain ⟨hc, hx1, hx2, hx3, hx4⟩ := awake_law hA
  have hx5 : w.h.n = 1 := by have := hw.row.len; simp [Vr.abs] at hx3; omega
  simp only [Vr.abs] at hx1 hx2
  refine EL_s rfl rfl rfl (os_move rfl) ?_
  refine EL_s rfl rfl rfl (os_extract rfl rfl) ?_
  refine EL_s rfl rfl rfl (os_extract rfl rfl) ?_
  refine EL_a rfl rfl rfl (oa_alloc z30) ?_; intro b1
  refine EL_u rfl rfl (ox_store rfl rfl sz30 rfl (by rfl) (.head .head)) ?_
  refine EL_s rfl rfl rfl (os_assign rfl) ?_
  refine EL_nil ?_
  refine EQ_then (EQ_wp ?_)
  refine EW_seq ?_
  -- region 2  law.go:57
  refine EW_region ?_
  refine EL_s rfl rfl rfl (os_move rfl) ?_
  refine EL_s rfl rfl rfl (os_eql rfl rfl) ?_
  refine EL_s rfl rfl rfl (os_move rfl) ?_
  refine EL_split (t := 13) rfl (fun h => ?_) (fun h => ?_)
  · try simp only [decide_eq_true_eq, decide_eq_false_iff_not, Bool.not_eq_true', Bool.not_eq_false'] at h
    refine EL_yes (j := 2) (d := 13) (b := true) rfl rfl rfl ?_
    refine EL_s rfl rfl rfl (os_field rfl fl30_1) ?_
    refine EL_yes (j := 2) (d := 13) (b := true) rfl rfl rfl ?_
    refine EL_s rfl rfl rfl (os_load_one rfl one23 (cells_own own_head rfl)) ?_
    refine EL_yes (j := 2) (d := 13) (b := true) rfl rfl rfl ?_
    refine EL_s rfl rfl rfl (os_eql rfl rfl) ?_
    refine EL_s rfl rfl rfl (os_pick_t rfl rfl) ?_
    refine EL_s rfl rfl rfl (os_move rfl) ?_
    refine EL_split (t := 18) rfl (fun h => ?_) (fun h => ?_)
    · try simp only [decide_eq_true_eq, decide_eq_false_iff_not, Bool.not_eq_true', Bool.not_eq_false'] at h
      refine EL_yes (j := 7) (d := 18) (b := true) rfl rfl rfl ?_
      refine EL_s rfl rfl rfl (os_field rfl fl30_2) ?_
      refine EL_yes (j := 7) (d := 18) (b := true) rfl rfl rfl ?_
      refine EL_s rfl rfl rfl (os_load_one rfl one23 (cells_own own_head rfl)) ?_
      refine EL_yes (j := 7) (d := 18) (b := true) rfl rfl rfl ?_
      refine EL_s rfl rfl rfl (os_eql rfl rfl) ?_
      refine EL_s rfl rfl rfl (os_pick_t rfl rfl) ?_
      refine EL_s rfl rfl rfl (os_move rfl) ?_
      refine EL_split (t := 23) rfl (fun h => ?_) (fun h => ?_)
      · try simp only [decide_eq_true_eq, decide_eq_false_iff_not, Bool.not_eq_true', Bool.not_eq_false'] at h
        refine EL_yes (j := 12) (d := 23) (b := true) rfl rfl rfl ?_
        refine EL_s rfl rfl rfl (os_field rfl fl30_0) ?_
        refine EL_yes (j := 12) (d := 23) (b := true) rfl rfl rfl ?_
        refine EL_s rfl rfl rfl (os_load_one rfl one28 (cells_own own_head rfl)) ?_
        refine EL_yes (j := 12) (d := 23) (b := true) rfl rfl rfl ?_
        refine EL_s rfl rfl rfl (os_len rfl sl28) ?_
        refine EL_yes (j := 12) (d := 23) (b := true) rfl rfl rfl ?_
        refine EL_s rfl rfl rfl (os_eql rfl rfl) ?_
        refine EL_s rfl rfl rfl (os_pick_t rfl rfl) ?_
        refine EL_s rfl rfl rfl (os_move rfl) ?_
        refine EL_split (t := 29) rfl (fun h => ?_) (fun h => ?_)
        · try simp only [decide_eq_true_eq, decide_eq_false_iff_not, Bool.not_eq_true', Bool.not_eq_false'] at h
          refine EL_yes (j := 18) (d := 29) (b := true) rfl rfl rfl ?_
          refine EL_s rfl rfl rfl (os_load_agg (cs := [_, _, _]) rfl agg30 (cells_own own_head rfl)) ?_
          refine EL_yes (j := 18) (d := 29) (b := true) rfl rfl rfl ?_
          refine EL_s rfl rfl rfl (os_call (vs := [_]) body7 rfl (m_Right (r := w) hw)) ?_
          refine EL_s rfl rfl rfl (os_pick_t rfl rfl) ?_
          refine EL_s rfl rfl rfl (os_assign rfl) ?_
          refine EL_nil ?_
          refine EQ_then (EQ_wp ?_)
          refine EW_ret ?_
          exact pc_ret1 Try.results4 (rv_tmp rfl) (hI9.trans hI1) ((Incl.refl _).skip _) (by rw [hx4]) (.inl rfl)
        · try simp only [decide_eq_true_eq, decide_eq_false_iff_not, Bool.not_eq_true', Bool.not_eq_false'] at h
          refine EL_no rfl rfl rfl rfl rfl rfl ?_
          refine EL_no rfl rfl rfl rfl rfl rfl ?_
          refine EL_s rfl rfl rfl (os_pick_f rfl rfl) ?_
          refine EL_s rfl rfl rfl (os_assign rfl) ?_
          refine EL_nil ?_
          refine EQ_then (EQ_wp ?_)
          refine EW_ret ?_
          exfalso; omega
      · try simp only [decide_eq_true_eq, decide_eq_false_iff_not, Bool.not_eq_true', Bool.not_eq_false'] at h
        refine EL_no rfl rfl rfl rfl rfl rfl ?_
        refine EL_no rfl rfl rfl rfl rfl rfl ?_
        refine EL_no rfl rfl rfl rfl rfl rfl ?_
        refine EL_no rfl rfl rfl rfl rfl rfl ?_
        refine EL_s rfl rfl rfl (os_pick_f rfl rfl) ?_
        refine EL_s rfl rfl rfl (os_move rfl) ?_
        refine EL_no rfl rfl rfl rfl rfl rfl ?_
        refine EL_no rfl rfl rfl rfl rfl rfl ?_
        refine EL_s rfl rfl rfl (os_pick_f rfl rfl) ?_
        refine EL_s rfl rfl rfl (os_assign rfl) ?_
        refine EL_nil ?_
        refine EQ_then (EQ_wp ?_)
        refine EW_ret ?_
        exfalso; omega
    · try simp only [decide_eq_true_eq, decide_eq_false_iff_not, Bool.not_eq_true', Bool.not_eq_false'] at h
      refine EL_no rfl rfl rfl rfl rfl rfl ?_
      refine EL_no rfl rfl rfl rfl rfl rfl ?_
      refine EL_no rfl rfl rfl rfl rfl rfl ?_
      refine EL_s rfl rfl rfl (os_pick_f rfl rfl) ?_
      refine EL_s rfl rfl rfl (os_move rfl) ?_
      refine EL_no rfl rfl rfl rfl rfl rfl ?_
      refine EL_no rfl rfl rfl rfl rfl rfl ?_
      refine EL_no rfl rfl rfl rfl rfl rfl ?_
      refine EL_no rfl rfl rfl rfl rfl rfl ?_
      refine EL_s rfl rfl rfl (os_pick_f rfl rfl) ?_
      refine EL_s rfl rfl rfl (os_move rfl) ?_
      refine EL_no rfl rfl rfl rfl rfl rfl ?_
      refine EL_no rfl rfl rfl rfl rfl rfl ?_
      refine EL_s rfl rfl rfl (os_pick_f rfl rfl) ?_
      refine EL_s rfl rfl rfl (os_assign rfl) ?_
      refine EL_nil ?_
      refine EQ_then (EQ_wp ?_)
      refine EW_ret ?_
      exfalso; omega
  · try simp only [decide_eq_true_eq, decide_eq_false_iff_not, Bool.not_eq_true', Bool.not_eq_false'] at h
    refine EL_no rfl rfl rfl rfl rfl rfl ?_
    refine EL_no rfl rfl rfl rfl rfl rfl ?_
    refine EL_no rfl rfl rfl rfl rfl rfl ?_
    refine EL_s rfl rfl rfl (os_pick_f rfl rfl) ?_
    refine EL_s rfl rfl rfl (os_move rfl) ?_
    refine EL_no rfl rfl rfl rfl rfl rfl ?_
    refine EL_no rfl rfl rfl rfl rfl rfl ?_
    refine EL_no rfl rfl rfl rfl rfl rfl ?_
    refine EL_s rfl rfl rfl (os_pick_f rfl rfl) ?_
    refine EL_s rfl rfl rfl (os_move rfl) ?_
    refine EL_no rfl rfl rfl rfl rfl rfl ?_
    refine EL_no rfl rfl rfl rfl rfl rfl ?_
    refine EL_no rfl rfl rfl rfl rfl rfl ?_
    refine EL_no rfl rfl rfl rfl rfl rfl ?_
    refine EL_s rfl rfl rfl (os_pick_f rfl rfl) ?_
    refine EL_s rfl rfl rfl (os_move rfl) ?_
    refine EL_no rfl rfl rfl rfl rfl rfl ?_
    refine EL_no rfl rfl rfl rfl rfl rfl ?_
    refine EL_s rfl rfl rfl (os_pick_f rfl rfl) ?_
    refine EL_s rfl rfl rfl (os_assign rfl) ?_
    refine EL_nil ?_
    refine EQ_then (EQ_wp ?_)
    refine EW_ret ?_
    exfalso; omega


end Go.Proofs.Ytodkbhbbdnjlcaa
