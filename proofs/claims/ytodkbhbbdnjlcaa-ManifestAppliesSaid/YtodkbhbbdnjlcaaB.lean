/- Proved here: the part B of the proof that the law of this seat returns true for every input; no condition. -/
import Derived.Test.YtodkbhbbdnjlcaaA
set_option maxRecDepth 20000
set_option linter.unusedVariables false
set_option linter.unusedSimpArgs false
namespace Go.Proofs.Ytodkbhbbdnjlcaa
open Go Go.Gl


def orI : List Int → Int
  | [] => 0
  | x :: r => if x = 0 then orI r else x
def ints (l : List Int) : List (List Value) := l.map fun x => [.int .i64 x]
theorem ints_get {l : List Int} {k : Nat} {x : Int} (h : l[k]? = some x) : (ints l)[k]? = some [.int .i64 x] := by simp [ints, h]
theorem row_lit {I : Gh} {L : List Seg} {b n : Nat} {T : TypeId} {sz : Nat} {cs : List Value} (xs : List (List Value)) (hn : n = xs.length) (hx : ∀ x ∈ xs, x.length = sz) (hc : cs = xs.flatten) (hm : n ≤ maxLen) :
    Row I ([(b, .cells cs.toArray T)] :: L) (some ⟨b, 0, none⟩) n n sz xs :=
  (OwnRow.lit (b := b) (T := T) (cur := cs.toArray) hn hx (by simpa using hc) hm).row fun x hx => .inr (own_seg hx)
theorem orI_step {l : List Int} {k : Nat} {x : Int} (h : l[k]? = some x) : orI (l.drop k) = if x = 0 then orI (l.drop (k + 1)) else x := by
  rw [drop_of_get h]; rfl

theorem cmp_Or {I : Gh} {L : List Seg} {a : Option Addr} {m c : Nat} {l : List Int} (hr : Row I L a m c 1 (ints l)) : PC Try.prog 35 #[.slice a m c] I L fun K v => v = .int .i64 (orI l) := by
  refine PC.of (n := 18) Try.func35 rfl Try.ntmps35 rfl fun I0 L0 hI0 hL0 => ?_
  have hr := hr.mono hI0 hL0
  have e1 := hr.len
  have b1 := hr.le
  have b2 := hr.cap
  unfold maxLen at b2
  rw [show (ints l).length = l.length from by simp [ints]] at e1
  refine EW_seq ?_
  -- region 0  cmp.go:69
  refine EW_region ?_
  refine EL_s rfl rfl rfl (os_assign rfl) ?_
  refine EL_nil ?_
  refine EQ_then (EQ_wp ?_)
  refine EW_seq ?_
  -- region 1  cmp.go:70
  refine EW_region ?_
  refine EL_s rfl rfl rfl (os_assign rfl) ?_
  refine EL_nil ?_
  refine EQ_then (EQ_wp ?_)
  refine EW_seq ?_
  refine EW_seq ?_
  -- region 2  cmp.go:71
  refine EW_region ?_
  refine EL_s rfl rfl rfl (os_move rfl) ?_
  refine EL_s rfl rfl rfl (os_len rfl sl78) ?_
  refine EL_s rfl rfl rfl (os_move rfl) ?_
  refine EL_nil ?_
  refine EQ_then (EQ_wp ?_)
  refine EW_block ?_
  refine EW_loop (σ := Nat) (fun k => [(3, .int .i64 0), (6, .slice a m c), (7, .int .i64 (m : Int)), (8, .int .i64 (k : Int))]) (fun k => I0) (fun k => L0) (fun k => k ≤ m ∧ orI l = orI (l.drop k)) (fun k => m - k) 0 ⟨Nat.zero_le _, rfl⟩ (by exact ⟨rfl, rfl, rfl, rfl, trivial⟩) (fun w h => h) ?_
  rintro k ⟨hk, ho⟩
  refine EW_seq ?_
  -- region 3  cmp.go:71
  refine EW_region ?_
  refine EL_s rfl rfl rfl (os_lss rfl rfl) ?_
  refine EL_nil ?_
  refine EQ_then (EQ_wp ?_)
  refine EW_seq ?_
  refine EW_cond rfl (fun h => ?_) (fun h => ?_)
  · try simp only [decide_eq_true_eq, decide_eq_false_iff_not, Bool.not_eq_true', Bool.not_eq_false'] at h
    refine EW_skip ?_
    refine EQ_then (EQ_wp ?_)
    refine EW_seq ?_
    refine EW_block ?_
    refine EW_seq ?_
    obtain ⟨x, hx⟩ := get_some (l := l) (k := k) (by omega)
    -- region 4  cmp.go:71
    refine EW_region ?_
    refine EL_s rfl rfl rfl (os_at (k) rfl rfl (by omega) sl78 (by omega) (hr.some (by omega))) ?_
    refine EL_s rfl rfl rfl (os_load_one rfl one3 (hr.cells (ints_get hx) (.refl _) (.refl _))) ?_
    refine EL_s rfl rfl rfl (os_assign rfl) ?_
    refine EL_nil ?_
    refine EQ_then (EQ_wp ?_)
    refine EW_seq ?_
    -- region 5  cmp.go:72
    refine EW_region ?_
    refine EL_s rfl rfl rfl (os_move rfl) ?_
    refine EL_s rfl rfl rfl (os_move rfl) ?_
    refine EL_s rfl rfl rfl (os_neq rfl rfl) ?_
    refine EL_nil ?_
    refine EQ_then (EQ_wp ?_)
    refine EW_cond rfl (fun h => ?_) (fun h => ?_)
    · try simp only [decide_eq_true_eq, decide_eq_false_iff_not, Bool.not_eq_true', Bool.not_eq_false'] at h
      have h3 := h
      refine EW_seq ?_
      -- region 6  cmp.go:73
      refine EW_region ?_
      refine EL_s rfl rfl rfl (os_move rfl) ?_
      refine EL_s rfl rfl rfl (os_assign rfl) ?_
      refine EL_nil ?_
      refine EQ_then (EQ_wp ?_)
      refine EW_ret ?_
      refine EQ_block_ret (EQ_then_ret (EQ_then_ret (EQ_block_ret (EQ_then_ret (?_)))))
      exact pc_ret1 Try.results35 (rv_tmp rfl) (.refl _) (.refl _) (by rw [ho, orI_step hx, if_neg h3]) (.inl rfl)
    · try simp only [decide_eq_true_eq, decide_eq_false_iff_not, Bool.not_eq_true', Bool.not_eq_false'] at h
      have h3 := h
      refine EW_skip ?_
      refine EQ_block_normal ?_
      refine EQ_then (EQ_wp ?_)
      -- region 7  cmp.go:71
      refine EW_region ?_
      refine EL_s rfl rfl rfl (os_add_in rfl rfl (IntWalk.i64_in _ (by omega))) ?_
      refine EL_s rfl rfl rfl (os_move rfl) ?_
      refine EL_nil ?_
      refine EQ_round (k + 1) ?_ ?_ ?_ ?_
      · exact ⟨by omega, by rw [ho, orI_step hx, if_pos h3]⟩
      · first | omega | (dsimp only; omega)
      · exact ⟨rfl, rfl, rfl, rfl, trivial⟩
      · exact fun w h => h
  · try simp only [decide_eq_true_eq, decide_eq_false_iff_not, Bool.not_eq_true', Bool.not_eq_false'] at h
    refine EW_exit ?_
    refine EQ_then_exit (EQ_then_exit (EQ_block_exit (?_)))
    refine EQ_then (EQ_wp ?_)
    refine EW_seq ?_
    -- region 8  cmp.go:76
    refine EW_region ?_
    refine EL_s rfl rfl rfl (os_move rfl) ?_
    refine EL_s rfl rfl rfl (os_assign rfl) ?_
    refine EL_nil ?_
    refine EQ_then (EQ_wp ?_)
    refine EW_ret ?_
    exact pc_ret1 Try.results35 (rv_tmp rfl) (.refl _) (.refl _) (by rw [ho, List.drop_eq_nil_of_le (by omega)]; rfl) (.inl rfl)

theorem m_compare {I : Gh} {L : List Seg} {p q : PF} (hp : p.Ok I) (hq : q.Ok I) : PC Try.prog 17 #[.agg (pcells p).toArray, .agg (pcells q).toArray] I L fun K v => v = .int .i64 (cmpF p.f q.f) := by
  refine PC.of (n := 37) Try.func17 rfl Try.ntmps17 rfl fun I0 L0 hI0 hL0 => ?_
  have hp := hp.mono hI0
  have hq := hq.mono hI0
  refine EW_seq ?_
  -- region 0  manifest.go:58
  refine EW_region ?_
  refine EL_a rfl rfl rfl (oa_box rfl) ?_; intro b2
  refine EL_a rfl rfl rfl (oa_box rfl) ?_; intro b3
  refine EL_s rfl rfl rfl (os_assign rfl) ?_
  refine EL_nil ?_
  refine EQ_then (EQ_wp ?_)
  refine EW_seq ?_
  refine EW_seq ?_
  -- region 1  manifest.go:59
  refine EW_region ?_
  refine EL_s rfl rfl rfl (os_field rfl fl53_2) ?_
  refine EL_s rfl rfl rfl (os_load_one rfl one3 (cells_own (own_tail own_head) rfl)) ?_
  refine EL_s rfl rfl rfl (os_field rfl fl53_2) ?_
  refine EL_s rfl rfl rfl (os_load_one rfl one3 (cells_own own_head rfl)) ?_
  refine EL_s rfl rfl rfl (os_neq rfl rfl) ?_
  refine EL_nil ?_
  refine EQ_then (EQ_wp ?_)
  refine EW_cond rfl (fun h => ?_) (fun h => ?_)
  · try simp only [decide_eq_true_eq, decide_eq_false_iff_not, Bool.not_eq_true', Bool.not_eq_false'] at h
    have g1 := h
    refine EW_seq ?_
    -- region 2  manifest.go:60
    refine EW_region ?_
    refine EL_s rfl rfl rfl (os_field rfl fl53_2) ?_
    refine EL_s rfl rfl rfl (os_load_one rfl one3 (cells_own (own_tail own_head) rfl)) ?_
    refine EL_s rfl rfl rfl (os_field rfl fl53_2) ?_
    refine EL_s rfl rfl rfl (os_load_one rfl one3 (cells_own own_head rfl)) ?_
    refine EL_s rfl rfl rfl (os_call (vs := [_, _]) body33 rfl (Compare_int _ _)) ?_
    refine EL_s rfl rfl rfl (os_assign rfl) ?_
    refine EL_nil ?_
    refine EQ_then (EQ_wp ?_)
    refine EW_ret ?_
    refine EQ_then_ret (?_)
    exact pc_ret1 Try.results17 (rv_tmp rfl) (.refl _) (((Incl.refl _).skip _).skip _) (by rw [cmpF, if_pos g1]) (.inl rfl)
  · try simp only [decide_eq_true_eq, decide_eq_false_iff_not, Bool.not_eq_true', Bool.not_eq_false'] at h
    have g1 := h
    refine EW_skip ?_
    refine EQ_then (EQ_wp ?_)
    refine EW_seq ?_
    refine EW_seq ?_
    -- region 3  manifest.go:62
    refine EW_region ?_
    refine EL_s rfl rfl rfl (os_field rfl fl53_2) ?_
    refine EL_s rfl rfl rfl (os_load_one rfl one3 (cells_own (own_tail own_head) rfl)) ?_
    refine EL_s rfl rfl rfl (os_eql rfl rfl) ?_
    refine EL_nil ?_
    refine EQ_then (EQ_wp ?_)
    refine EW_cond rfl (fun h => ?_) (fun h => ?_)
    · try simp only [decide_eq_true_eq, decide_eq_false_iff_not, Bool.not_eq_true', Bool.not_eq_false'] at h
      have g2 := h
      refine EW_seq ?_
      -- region 4  manifest.go:63
      refine EW_region ?_
      refine EL_s rfl rfl rfl (os_field rfl fl53_1) ?_
      refine EL_s rfl rfl rfl (os_load_one rfl one23 (cells_own own_head rfl)) ?_
      refine EL_s rfl rfl rfl (os_field rfl fl53_1) ?_
      refine EL_s rfl rfl rfl (os_load_one rfl one23 (cells_own (own_tail own_head) rfl)) ?_
      refine EL_s rfl rfl rfl (os_call (vs := [_, _]) body34 rfl (Compare_uint64 _ _)) ?_
      refine EL_s rfl rfl rfl (os_assign rfl) ?_
      refine EL_nil ?_
      refine EQ_then (EQ_wp ?_)
      refine EW_ret ?_
      refine EQ_then_ret (?_)
      exact pc_ret1 Try.results17 (rv_tmp rfl) (.refl _) (((Incl.refl _).skip _).skip _) (by rw [cmpF, if_neg (by simpa using g1), if_pos g2]) (.inl rfl)
    · try simp only [decide_eq_true_eq, decide_eq_false_iff_not, Bool.not_eq_true', Bool.not_eq_false'] at h
      have g2 := h
      refine EW_skip ?_
      refine EQ_then (EQ_wp ?_)
      refine EW_seq ?_
      -- region 5 DRAWN  manifest.go:65
      refine EW_draw [] [.s, .s, .s, .s, .s, .s, .s, .s, .s, .s, .s, .s, .a, .s, .s] [0, 1, 2, 3, 4, 5, 6, 7, 8, 9, 10, 11, 12, 13, 14] mixed (by kernel_rfl) (by kernel_rfl) rfl ?_
      refine EP_s rfl rfl rfl rfl rfl (by exact (os_field rfl fl53_0)) ?_
      refine EP_s rfl rfl rfl rfl rfl (by exact (os_field rfl fl51_0)) ?_
      refine EP_s rfl rfl rfl rfl rfl (by exact (os_load_one rfl one49 (cells_own (own_tail own_head) rfl))) ?_
      refine EP_s rfl rfl rfl rfl rfl (by exact (os_field rfl fl53_0)) ?_
      refine EP_s rfl rfl rfl rfl rfl (by exact (os_field rfl fl51_0)) ?_
      refine EP_s rfl rfl rfl rfl rfl (by exact (os_load_one rfl one49 (cells_own own_head rfl))) ?_
      refine EP_s rfl rfl rfl rfl rfl (by exact (os_call (vs := [_, _]) body16 rfl (codec_Cmp hp.first.up hq.first.up))) ?_
      refine EP_s rfl rfl rfl rfl rfl (by exact (os_field rfl fl53_1)) ?_
      refine EP_s rfl rfl rfl rfl rfl (by exact (os_load_one rfl one23 (cells_own (own_tail own_head) rfl))) ?_
      refine EP_s rfl rfl rfl rfl rfl (by exact (os_field rfl fl53_1)) ?_
      refine EP_s rfl rfl rfl rfl rfl (by exact (os_load_one rfl one23 (cells_own own_head rfl))) ?_
      refine EP_s rfl rfl rfl rfl rfl (by exact (os_call (vs := [_, _]) body34 rfl (Compare_uint64 _ _))) ?_
      refine EP_a rfl rfl rfl rfl rfl (by exact (oa_slice [_, _] sl78 z3 rfl rfl rfl rfl)) ?_
      intro b35
      refine EP_s rfl rfl rfl rfl rfl (by exact (os_call (vs := [_]) body35 rfl (cmp_Or (l := [cmpB p.f.first q.f.first, cmpI p.f.num q.f.num]) (row_lit _ rfl (by simp [ints]) rfl (by decide))))) ?_
      refine EP_s rfl rfl rfl rfl rfl (by exact (os_assign rfl)) ?_
      refine EP_nil ?_
      refine EQ_then (EQ_wp ?_)
      refine EW_ret ?_
      exact pc_ret1 Try.results17 (rv_tmp rfl) (.refl _) ((((Incl.refl _).skip _).skip _).skip _) (by rw [cmpF, if_neg (by simpa using g1), if_neg g2]; simp only [orI]; by_cases hz : cmpB p.f.first q.f.first = 0 <;> by_cases hy : cmpI p.f.num q.f.num = 0 <;> simp [hz, hy]) (.inl rfl)

theorem m_touch {I : Gh} {L : List Seg} {p q : PF} (hp : p.Ok I) (hq : q.Ok I) : PC Try.prog 18 #[.agg (pcells p).toArray, .agg (pcells q).toArray] I L fun K v => v = .bool (touchF p.f q.f) := by
  refine PC.of (n := 25) Try.func18 rfl Try.ntmps18 rfl fun I0 L0 hI0 hL0 => ?_
  have hp := hp.mono hI0
  have hq := hq.mono hI0
  refine EW_seq ?_
  -- region 0  manifest.go:69
  refine EW_region ?_
  refine EL_a rfl rfl rfl (oa_box rfl) ?_; intro b2
  refine EL_a rfl rfl rfl (oa_box rfl) ?_; intro b3
  refine EL_s rfl rfl rfl (os_assign rfl) ?_
  refine EL_nil ?_
  refine EQ_then (EQ_wp ?_)
  refine EW_seq ?_
  -- region 1  manifest.go:70
  refine EW_region ?_
  refine EL_s rfl rfl rfl (os_field rfl fl53_2) ?_
  refine EL_s rfl rfl rfl (os_load_one rfl one3 (cells_own own_head rfl)) ?_
  refine EL_s rfl rfl rfl (os_gtr rfl rfl) ?_
  refine EL_s rfl rfl rfl (os_move rfl) ?_
  refine EL_split (t := 8) rfl (fun h => ?_) (fun h => ?_)
  · try simp only [decide_eq_true_eq, decide_eq_false_iff_not, Bool.not_eq_true', Bool.not_eq_false'] at h
    refine EL_yes (j := 3) (d := 8) (b := true) rfl rfl rfl ?_
    refine EL_s rfl rfl rfl (os_field rfl fl53_2) ?_
    refine EL_yes (j := 3) (d := 8) (b := true) rfl rfl rfl ?_
    refine EL_s rfl rfl rfl (os_load_one rfl one3 (cells_own (own_tail own_head) rfl)) ?_
    refine EL_yes (j := 3) (d := 8) (b := true) rfl rfl rfl ?_
    refine EL_s rfl rfl rfl (os_field rfl fl53_2) ?_
    refine EL_yes (j := 3) (d := 8) (b := true) rfl rfl rfl ?_
    refine EL_s rfl rfl rfl (os_load_one rfl one3 (cells_own own_head rfl)) ?_
    refine EL_yes (j := 3) (d := 8) (b := true) rfl rfl rfl ?_
    refine EL_s rfl rfl rfl (os_eql rfl rfl) ?_
    refine EL_s rfl rfl rfl (os_pick_t rfl rfl) ?_
    refine EL_s rfl rfl rfl (os_move rfl) ?_
    refine EL_split (t := 15) rfl (fun h => ?_) (fun h => ?_)
    · try simp only [decide_eq_true_eq, decide_eq_false_iff_not, Bool.not_eq_true', Bool.not_eq_false'] at h
      refine EL_yes (j := 10) (d := 15) (b := true) rfl rfl rfl ?_
      refine EL_s rfl rfl rfl (os_field rfl fl53_0) ?_
      refine EL_yes (j := 10) (d := 15) (b := true) rfl rfl rfl ?_
      refine EL_s rfl rfl rfl (os_field rfl fl51_1) ?_
      refine EL_yes (j := 10) (d := 15) (b := true) rfl rfl rfl ?_
      refine EL_s rfl rfl rfl (os_load_one rfl one49 (cells_own (own_tail own_head) rfl)) ?_
      refine EL_yes (j := 10) (d := 15) (b := true) rfl rfl rfl ?_
      refine EL_s rfl rfl rfl (os_field rfl fl53_0) ?_
      refine EL_yes (j := 10) (d := 15) (b := true) rfl rfl rfl ?_
      refine EL_s rfl rfl rfl (os_field rfl fl51_0) ?_
      refine EL_yes (j := 10) (d := 15) (b := true) rfl rfl rfl ?_
      refine EL_s rfl rfl rfl (os_load_one rfl one49 (cells_own own_head rfl)) ?_
      refine EL_yes (j := 10) (d := 15) (b := true) rfl rfl rfl ?_
      refine EL_s rfl rfl rfl (os_call (vs := [_, _]) body16 rfl (codec_Cmp hp.last.up hq.first.up)) ?_
      refine EL_yes (j := 10) (d := 15) (b := true) rfl rfl rfl ?_
      refine EL_s rfl rfl rfl (os_geq rfl rfl) ?_
      refine EL_s rfl rfl rfl (os_pick_t rfl rfl) ?_
      refine EL_s rfl rfl rfl (os_assign rfl) ?_
      refine EL_nil ?_
      refine EQ_then (EQ_wp ?_)
      refine EW_ret ?_
      exact pc_ret1 Try.results18 (rv_tmp rfl) (.refl _) (((Incl.refl _).skip _).skip _) (by simp [touchF, *]) (.inl rfl)
    · try simp only [decide_eq_true_eq, decide_eq_false_iff_not, Bool.not_eq_true', Bool.not_eq_false'] at h
      refine EL_no rfl rfl rfl rfl rfl rfl ?_
      refine EL_no rfl rfl rfl rfl rfl rfl ?_
      refine EL_no rfl rfl rfl rfl rfl rfl ?_
      refine EL_no rfl rfl rfl rfl rfl rfl ?_
      refine EL_no rfl rfl rfl rfl rfl rfl ?_
      refine EL_no rfl rfl rfl rfl rfl rfl ?_
      refine EL_no rfl rfl rfl rfl rfl rfl ?_
      refine EL_no rfl rfl rfl rfl rfl rfl ?_
      refine EL_s rfl rfl rfl (os_pick_f rfl rfl) ?_
      refine EL_s rfl rfl rfl (os_assign rfl) ?_
      refine EL_nil ?_
      refine EQ_then (EQ_wp ?_)
      refine EW_ret ?_
      exact pc_ret1 Try.results18 (rv_tmp rfl) (.refl _) (((Incl.refl _).skip _).skip _) (by simp [touchF, *]) (.inl rfl)
  · try simp only [decide_eq_true_eq, decide_eq_false_iff_not, Bool.not_eq_true', Bool.not_eq_false'] at h
    refine EL_no rfl rfl rfl rfl rfl rfl ?_
    refine EL_no rfl rfl rfl rfl rfl rfl ?_
    refine EL_no rfl rfl rfl rfl rfl rfl ?_
    refine EL_no rfl rfl rfl rfl rfl rfl ?_
    refine EL_no rfl rfl rfl rfl rfl rfl ?_
    refine EL_s rfl rfl rfl (os_pick_f rfl rfl) ?_
    refine EL_s rfl rfl rfl (os_move rfl) ?_
    refine EL_no rfl rfl rfl rfl rfl rfl ?_
    refine EL_no rfl rfl rfl rfl rfl rfl ?_
    refine EL_no rfl rfl rfl rfl rfl rfl ?_
    refine EL_no rfl rfl rfl rfl rfl rfl ?_
    refine EL_no rfl rfl rfl rfl rfl rfl ?_
    refine EL_no rfl rfl rfl rfl rfl rfl ?_
    refine EL_no rfl rfl rfl rfl rfl rfl ?_
    refine EL_no rfl rfl rfl rfl rfl rfl ?_
    refine EL_s rfl rfl rfl (os_pick_f rfl rfl) ?_
    refine EL_s rfl rfl rfl (os_assign rfl) ?_
    refine EL_nil ?_
    refine EQ_then (EQ_wp ?_)
    refine EW_ret ?_
    exact pc_ret1 Try.results18 (rv_tmp rfl) (.refl _) (((Incl.refl _).skip _).skip _) (by simp [touchF, *]) (.inl rfl)

theorem r_ahead {I : Gh} {L : List Seg} {p q : PF} (hp : p.Ok I) (hq : q.Ok I) : PC Try.prog 20 #[.agg (rcells p).toArray, .agg (rcells q).toArray] I L fun K v => v = .bool (aheadF p.f q.f) := by
  refine PC.of (n := 29) Try.func20 rfl Try.ntmps20 rfl fun I0 L0 hI0 hL0 => ?_
  have hp := hp.mono hI0
  have hq := hq.mono hI0
  refine EW_seq ?_
  -- region 0  ref.go:27
  refine EW_region ?_
  refine EL_a rfl rfl rfl (oa_box rfl) ?_; intro b2
  refine EL_a rfl rfl rfl (oa_box rfl) ?_; intro b3
  refine EL_s rfl rfl rfl (os_assign rfl) ?_
  refine EL_nil ?_
  refine EQ_then (EQ_wp ?_)
  refine EW_seq ?_
  refine EW_seq ?_
  -- region 1  ref.go:28
  refine EW_region ?_
  refine EL_s rfl rfl rfl (os_field rfl fl55_1) ?_
  refine EL_s rfl rfl rfl (os_load_one rfl one3 (cells_own (own_tail own_head) rfl)) ?_
  refine EL_s rfl rfl rfl (os_field rfl fl55_1) ?_
  refine EL_s rfl rfl rfl (os_load_one rfl one3 (cells_own own_head rfl)) ?_
  refine EL_s rfl rfl rfl (os_neq rfl rfl) ?_
  refine EL_nil ?_
  refine EQ_then (EQ_wp ?_)
  refine EW_cond rfl (fun h => ?_) (fun h => ?_)
  · try simp only [decide_eq_true_eq, decide_eq_false_iff_not, Bool.not_eq_true', Bool.not_eq_false'] at h
    have g1 := h
    refine EW_seq ?_
    -- region 2  ref.go:29
    refine EW_region ?_
    refine EL_s rfl rfl rfl (os_field rfl fl55_1) ?_
    refine EL_s rfl rfl rfl (os_load_one rfl one3 (cells_own (own_tail own_head) rfl)) ?_
    refine EL_s rfl rfl rfl (os_field rfl fl55_1) ?_
    refine EL_s rfl rfl rfl (os_load_one rfl one3 (cells_own own_head rfl)) ?_
    refine EL_s rfl rfl rfl (os_lss rfl rfl) ?_
    refine EL_s rfl rfl rfl (os_assign rfl) ?_
    refine EL_nil ?_
    refine EQ_then (EQ_wp ?_)
    refine EW_ret ?_
    refine EQ_then_ret (?_)
    exact pc_ret1 Try.results20 (rv_tmp rfl) (.refl _) (((Incl.refl _).skip _).skip _) (by rw [aheadF, if_pos g1]) (.inl rfl)
  · try simp only [decide_eq_true_eq, decide_eq_false_iff_not, Bool.not_eq_true', Bool.not_eq_false'] at h
    have g1 := h
    refine EW_skip ?_
    refine EQ_then (EQ_wp ?_)
    refine EW_seq ?_
    refine EW_seq ?_
    -- region 3  ref.go:31
    refine EW_region ?_
    refine EL_s rfl rfl rfl (os_field rfl fl55_1) ?_
    refine EL_s rfl rfl rfl (os_load_one rfl one3 (cells_own (own_tail own_head) rfl)) ?_
    refine EL_s rfl rfl rfl (os_eql rfl rfl) ?_
    refine EL_nil ?_
    refine EQ_then (EQ_wp ?_)
    refine EW_cond rfl (fun h => ?_) (fun h => ?_)
    · try simp only [decide_eq_true_eq, decide_eq_false_iff_not, Bool.not_eq_true', Bool.not_eq_false'] at h
      have g2 := h
      refine EW_seq ?_
      -- region 4  ref.go:32
      refine EW_region ?_
      refine EL_s rfl rfl rfl (os_field rfl fl55_0) ?_
      refine EL_s rfl rfl rfl (os_load_one rfl one23 (cells_own (own_tail own_head) rfl)) ?_
      refine EL_s rfl rfl rfl (os_field rfl fl55_0) ?_
      refine EL_s rfl rfl rfl (os_load_one rfl one23 (cells_own own_head rfl)) ?_
      refine EL_s rfl rfl rfl (os_gtr rfl rfl) ?_
      refine EL_s rfl rfl rfl (os_assign rfl) ?_
      refine EL_nil ?_
      refine EQ_then (EQ_wp ?_)
      refine EW_ret ?_
      refine EQ_then_ret (?_)
      exact pc_ret1 Try.results20 (rv_tmp rfl) (.refl _) (((Incl.refl _).skip _).skip _) (by rw [aheadF, if_neg (by simpa using g1), if_pos g2]) (.inl rfl)
    · try simp only [decide_eq_true_eq, decide_eq_false_iff_not, Bool.not_eq_true', Bool.not_eq_false'] at h
      have g2 := h
      refine EW_skip ?_
      refine EQ_then (EQ_wp ?_)
      refine EW_seq ?_
      -- region 5  ref.go:34
      refine EW_region ?_
      refine EL_s rfl rfl rfl (os_field rfl fl55_2) ?_
      refine EL_s rfl rfl rfl (os_load_one rfl one49 (cells_own (own_tail own_head) rfl)) ?_
      refine EL_s rfl rfl rfl (os_field rfl fl55_2) ?_
      refine EL_s rfl rfl rfl (os_load_one rfl one49 (cells_own own_head rfl)) ?_
      refine EL_s rfl rfl rfl (os_call (vs := [_, _]) body19 rfl (ref_Cmp hp.first.up hq.first.up)) ?_
      refine EL_s rfl rfl rfl (os_lss rfl rfl) ?_
      refine EL_s rfl rfl rfl (os_assign rfl) ?_
      refine EL_nil ?_
      refine EQ_then (EQ_wp ?_)
      refine EW_ret ?_
      exact pc_ret1 Try.results20 (rv_tmp rfl) (.refl _) (((Incl.refl _).skip _).skip _) (by rw [aheadF, if_neg (by simpa using g1), if_neg g2]) (.inl rfl)

theorem ref_Equal {I : Gh} {L : List Seg} {a a' : Option Addr} {m c m' c' : Nat} {l l' : List UInt8} (h1 : Bytes I L a m c l) (h2 : Bytes I L a' m' c' l') : PC Try.prog 44 #[.slice a m c, .slice a' m' c'] I L fun K v => v = .bool (decide (l = l')) := by
  refine PC.of (n := 26) Try.func44 rfl Try.ntmps44 rfl fun I0 L0 hI0 hL0 => ?_
  have h1 := h1.mono hI0 hL0
  have h2 := h2.mono hI0 hL0
  have e1 := Bytes.len h1
  have e2 := Bytes.len h2
  have b1 := h1.le
  have b2 := h1.cap
  unfold maxLen at b2
  refine EW_seq ?_
  -- region 0  ref.go:39
  refine EW_region ?_
  refine EL_s rfl rfl rfl (os_assign rfl) ?_
  refine EL_nil ?_
  refine EQ_then (EQ_wp ?_)
  refine EW_seq ?_
  refine EW_seq ?_
  -- region 1  ref.go:40
  refine EW_region ?_
  refine EL_s rfl rfl rfl (os_move rfl) ?_
  refine EL_s rfl rfl rfl (os_len rfl sl49) ?_
  refine EL_s rfl rfl rfl (os_move rfl) ?_
  refine EL_s rfl rfl rfl (os_len rfl sl49) ?_
  refine EL_s rfl rfl rfl (os_neq rfl rfl) ?_
  refine EL_nil ?_
  refine EQ_then (EQ_wp ?_)
  refine EW_cond rfl (fun h => ?_) (fun h => ?_)
  · try simp only [decide_eq_true_eq, decide_eq_false_iff_not, Bool.not_eq_true', Bool.not_eq_false'] at h
    refine EW_seq ?_
    -- region 2  ref.go:41
    refine EW_region ?_
    refine EL_s rfl rfl rfl (os_assign rfl) ?_
    refine EL_nil ?_
    refine EQ_then (EQ_wp ?_)
    refine EW_ret ?_
    refine EQ_then_ret (?_)
    exact pc_ret1 Try.results44 (rv_tmp rfl) (.refl _) (.refl _) (by rw [decide_eq_false (fun he => by rw [he] at e1; omega)]) (.inl rfl)
  · try simp only [decide_eq_true_eq, decide_eq_false_iff_not, Bool.not_eq_true', Bool.not_eq_false'] at h
    have hne : m = m' := by omega
    refine EW_skip ?_
    refine EQ_then (EQ_wp ?_)
    refine EW_seq ?_
    refine EW_seq ?_
    -- region 3  ref.go:43
    refine EW_region ?_
    refine EL_s rfl rfl rfl (os_assign rfl) ?_
    refine EL_nil ?_
    refine EQ_then (EQ_wp ?_)
    refine EW_block ?_
    refine EW_loop (σ := Nat) (fun k => [(0, .slice a m c), (1, .slice a' m' c'), (5, .int .i64 (k : Int))]) (fun k => I0) (fun k => L0) (fun k => k ≤ m ∧ l.take k = l'.take k) (fun k => m - k) 0 ⟨Nat.zero_le _, rfl⟩ (by exact ⟨rfl, rfl, rfl, trivial⟩) (fun w h => h) ?_
    rintro k ⟨hk1, hk3⟩
    refine EW_seq ?_
    refine EW_seq ?_
    -- region 4  ref.go:43
    refine EW_region ?_
    refine EL_s rfl rfl rfl (os_move rfl) ?_
    refine EL_s rfl rfl rfl (os_move rfl) ?_
    refine EL_s rfl rfl rfl (os_len rfl sl49) ?_
    refine EL_s rfl rfl rfl (os_lss rfl rfl) ?_
    refine EL_nil ?_
    refine EQ_then (EQ_wp ?_)
    refine EW_cond rfl (fun h => ?_) (fun h => ?_)
    · try simp only [decide_eq_true_eq, decide_eq_false_iff_not, Bool.not_eq_true', Bool.not_eq_false'] at h
      refine EW_skip ?_
      refine EQ_then (EQ_wp ?_)
      refine EW_seq ?_
      refine EW_block ?_
      refine EW_seq ?_
      obtain ⟨x, hx⟩ := get_some (l := l) (k := k) (by omega)
      obtain ⟨y, hy⟩ := get_some (l := l') (k := k) (by omega)
      -- region 6 DRAWN  ref.go:44
      refine EW_draw [] [.s, .s, .s, .s, .s, .s, .s, .s, .s] [0, 1, 2, 3, 4, 5, 6, 7, 8] mixed (by kernel_rfl) (by kernel_rfl) rfl ?_
      refine EP_s rfl rfl rfl rfl rfl (by exact (os_move rfl)) ?_
      refine EP_s rfl rfl rfl rfl rfl (by exact (os_move rfl)) ?_
      refine EP_s rfl rfl rfl rfl rfl (by exact (os_at (k) rfl rfl (by omega) sl49 (by omega) (h1.some (by omega)))) ?_
      refine EP_s rfl rfl rfl rfl rfl (by exact (os_load_one rfl one5 (Bytes.cell h1 hx (.refl _) (.refl _)))) ?_
      refine EP_s rfl rfl rfl rfl rfl (by exact (os_move rfl)) ?_
      refine EP_s rfl rfl rfl rfl rfl (by exact (os_move rfl)) ?_
      refine EP_s rfl rfl rfl rfl rfl (by exact (os_at (k) rfl rfl (by omega) sl49 (by omega) (h2.some (by omega)))) ?_
      refine EP_s rfl rfl rfl rfl rfl (by exact (os_load_one rfl one5 (Bytes.cell h2 hy (.refl _) (.refl _)))) ?_
      refine EP_s rfl rfl rfl rfl rfl (by exact (os_neq rfl rfl)) ?_
      refine EP_nil ?_
      refine EQ_then (EQ_wp ?_)
      refine EW_cond rfl (fun h => ?_) (fun h => ?_)
      · try simp only [decide_eq_true_eq, decide_eq_false_iff_not, Bool.not_eq_true', Bool.not_eq_false'] at h
        refine EW_seq ?_
        -- region 7  ref.go:45
        refine EW_region ?_
        refine EL_s rfl rfl rfl (os_assign rfl) ?_
        refine EL_nil ?_
        refine EQ_then (EQ_wp ?_)
        refine EW_ret ?_
        refine EQ_block_ret (EQ_then_ret (EQ_then_ret (EQ_block_ret (EQ_then_ret (?_)))))
        exact pc_ret1 Try.results44 (rv_tmp rfl) (.refl _) (.refl _) (by rw [decide_eq_false (fun he => by rw [he, hy] at hx; cases hx; exact h rfl)]) (.inl rfl)
      · try simp only [decide_eq_true_eq, decide_eq_false_iff_not, Bool.not_eq_true', Bool.not_eq_false'] at h
        refine EW_skip ?_
        refine EQ_block_normal ?_
        refine EQ_then (EQ_wp ?_)
        -- region 5  ref.go:43
        refine EW_region ?_
        refine EL_s rfl rfl rfl (os_move rfl) ?_
        refine EL_s rfl rfl rfl (os_add_in rfl rfl (IntWalk.i64_in _ (by omega))) ?_
        refine EL_s rfl rfl rfl (os_assign rfl) ?_
        refine EL_nil ?_
        refine EQ_round (k + 1) ?_ ?_ ?_ ?_
        · exact ⟨by omega, take_succ_of hk3 hx (by rw [u8_of h]; exact hy)⟩
        · exact (by omega)
        · exact ⟨rfl, rfl, rfl, trivial⟩
        · exact fun w h => h
    · try simp only [decide_eq_true_eq, decide_eq_false_iff_not, Bool.not_eq_true', Bool.not_eq_false'] at h
      refine EW_exit ?_
      refine EQ_then_exit (EQ_then_exit (EQ_block_exit (?_)))
      refine EQ_then (EQ_wp ?_)
      refine EW_seq ?_
      -- region 8  ref.go:48
      refine EW_region ?_
      refine EL_s rfl rfl rfl (os_assign rfl) ?_
      refine EL_nil ?_
      refine EQ_then (EQ_wp ?_)
      refine EW_ret ?_
      exact pc_ret1 Try.results44 (rv_tmp rfl) (.refl _) (.refl _) (by rw [decide_eq_true (by rw [List.take_of_length_le (by omega), List.take_of_length_le (by omega)] at hk3; exact hk3)]) (.inl rfl)


end Go.Proofs.Ytodkbhbbdnjlcaa
