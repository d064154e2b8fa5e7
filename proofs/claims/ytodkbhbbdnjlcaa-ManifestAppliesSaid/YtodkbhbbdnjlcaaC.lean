/- Proved here: the part C of the proof that the law of this seat returns true for every input; no condition. -/
import Derived.Test.YtodkbhbbdnjlcaaB
set_option maxRecDepth 20000
set_option linter.unusedVariables false
set_option linter.unusedSimpArgs false
namespace Go.Proofs.Ytodkbhbbdnjlcaa
open Go Go.Gl


/-- Bytes in new memory. -/
def NewB (K : Gh) (l : List UInt8) (v : Value) : Prop := ∃ h : Hd, v = h.v ∧ Bytes K [] h.a h.n h.c l
def NewP (K : Gh) (f : Fl) (v : Value) : Prop := ∃ p : PF, v = .agg (pcells p).toArray ∧ p.Ok K ∧ p.f = f
theorem pcells_one (p : PF) : ∀ x ∈ pcells p, x.oneCell' = true := by intro x hx; simp [pcells] at hx; rcases hx with rfl | rfl | rfl | rfl | rfl | rfl <;> rfl
theorem rcells_one (p : PF) : ∀ x ∈ rcells p, x.oneCell' = true := by intro x hx; simp [rcells] at hx; rcases hx with rfl | rfl | rfl | rfl | rfl | rfl <;> rfl

theorem ref_Copy {I : Gh} {L : List Seg} {a : Option Addr} {m c : Nat} {l : List UInt8} (hb : Bytes I L a m c l) (hl : l.length ≤ 140737488351232) : PC Try.prog 31 #[.slice a m c] I L fun K v => NewB K l v := by
  refine PC.of (n := 6) Try.func31 rfl Try.ntmps31 rfl fun I0 L0 hI0 hL0 => ?_
  have hb := hb.mono hI0 hL0
  have e1 := Bytes.len hb
  have b1 := hb.le
  have b2 := hb.cap
  unfold maxLen at b2
  refine EW_seq ?_
  -- region 0  ref.go:27
  refine EW_region ?_
  refine EL_s rfl rfl rfl (os_assign rfl) ?_
  refine EL_nil ?_
  refine EQ_then (EQ_wp ?_)
  refine EW_seq ?_
  -- region 1  ref.go:27
  refine EW_region ?_
  refine EL_a rfl rfl rfl (oa_slice [] sl49 z5 rfl rfl rfl rfl) ?_; intro b3
  refine EL_s rfl rfl rfl (os_move rfl) ?_
  refine EL_y rfl rfl rfl (ox_append rfl rfl sl49 z5 rfl (by decide) (OwnRow.lit (xs := []) rfl (fun x hx => by cases hx) rfl (by decide)) pick0 ((hb.mono (.refl _) ((Incl.refl _).skip _)).src (by decide) (bts_one l)) hb.nil (by omega) (by unfold maxLen; omega)) ?_
  rintro L1 v5 ⟨a5, c5, S5, rfl, rfl, ho5, hn5⟩
  refine EL_freeze (S := S5) pick0 fun I2 hI2 hS5 => ?_
  refine EL_s rfl rfl rfl (os_assign rfl) ?_
  refine EL_nil ?_
  refine EQ_then (EQ_wp ?_)
  refine EW_ret ?_
  exact pc_ret1 Try.results31 (rv_tmp rfl) hI2 (.refl _) ⟨⟨a5, 0 + m, c5⟩, rfl, ho5.row fun x hx => .inl (hS5 x hx)⟩ (.inl rfl)

theorem bytes_Clone {I : Gh} {L : List Seg} {a : Option Addr} {m c : Nat} {l : List UInt8} (hb : Bytes I L a m c l) (hl : l.length ≤ 140737488351232) : PC Try.prog 36 #[.slice a m c] I L fun K v => NewB K l v := by
  refine PC.of (n := 8) Try.func36 rfl Try.ntmps36 rfl fun I0 L0 hI0 hL0 => ?_
  have hb := hb.mono hI0 hL0
  have e1 := Bytes.len hb
  have b1 := hb.le
  have b2 := hb.cap
  unfold maxLen at b2
  refine EW_seq ?_
  -- region 0  bytes.go:1391
  refine EW_region ?_
  refine EL_s rfl rfl rfl (os_assign rfl) ?_
  refine EL_nil ?_
  refine EQ_then (EQ_wp ?_)
  refine EW_seq ?_
  refine EW_seq ?_
  -- region 1  bytes.go:1392
  refine EW_region ?_
  refine EL_s rfl rfl rfl (os_move rfl) ?_
  refine EL_s rfl rfl rfl (os_eql_nil rfl rfl sl49) ?_
  refine EL_nil ?_
  refine EQ_then (EQ_wp ?_)
  refine EW_cond rfl (fun h => ?_) (fun h => ?_)
  · try simp only [decide_eq_true_eq, decide_eq_false_iff_not, Bool.not_eq_true', Bool.not_eq_false'] at h
    have hnone : a = none := by cases a <;> simp_all
    refine EW_seq ?_
    -- region 2  bytes.go:1393
    refine EW_region ?_
    refine EL_s rfl rfl rfl (os_assign rfl) ?_
    refine EL_nil ?_
    refine EQ_then (EQ_wp ?_)
    refine EW_ret ?_
    refine EQ_then_ret (?_)
    exact pc_ret1 Try.results36 (rv_tmp rfl) (.refl _) (.refl _) ⟨⟨none, 0, 0⟩, rfl, by have h0 := hb.nil hnone; have : l = [] := List.eq_nil_of_length_eq_zero (by omega); subst this; exact Row.empty _ _ _⟩ (.inl rfl)
  · try simp only [decide_eq_true_eq, decide_eq_false_iff_not, Bool.not_eq_true', Bool.not_eq_false'] at h
    refine EW_skip ?_
    refine EQ_then (EQ_wp ?_)
    refine EW_seq ?_
    -- region 3  bytes.go:1395
    refine EW_region ?_
    refine EL_a rfl rfl rfl (oa_slice [] sl49 z5 rfl rfl rfl rfl) ?_; intro b5
    refine EL_s rfl rfl rfl (os_move rfl) ?_
    refine EL_y rfl rfl rfl (ox_append rfl rfl sl49 z5 rfl (by decide) (OwnRow.lit (xs := []) rfl (fun x hx => by cases hx) rfl (by decide)) pick0 ((hb.mono (.refl _) ((Incl.refl _).skip _)).src (by decide) (bts_one l)) hb.nil (by omega) (by unfold maxLen; omega)) ?_
    rintro L1 v7 ⟨a5, c5, S5, rfl, rfl, ho5, hn5⟩
    refine EL_freeze (S := S5) pick0 fun I2 hI2 hS5 => ?_
    refine EL_s rfl rfl rfl (os_assign rfl) ?_
    refine EL_nil ?_
    refine EQ_then (EQ_wp ?_)
    refine EW_ret ?_
    exact pc_ret1 Try.results36 (rv_tmp rfl) hI2 (.refl _) ⟨⟨a5, 0 + m, c5⟩, rfl, ho5.row fun x hx => .inl (hS5 x hx)⟩ (.inl rfl)

theorem l_short {I : Gh} {L : List Seg} {a : Option Addr} {m c : Nat} {l : List UInt8} (hb : Bytes I L a m c l) : PC Try.prog 15 #[.slice a m c] I L fun K v => ∃ h : Hd, v = h.v ∧ (∀ J M, I.le J → Incl L M → Bytes J M h.a h.n h.c (l.take 1024)) := by
  refine PC.of (n := 9) Try.func15 rfl Try.ntmps15 rfl fun I0 L0 hI0 hL0 => ?_
  have hbI := hb
  have hb := hb.mono hI0 hL0
  have e1 := Bytes.len hb
  have b1 := hb.le
  have b2 := hb.cap
  unfold maxLen at b2
  refine EW_seq ?_
  -- region 0  law.go:61
  refine EW_region ?_
  refine EL_s rfl rfl rfl (os_assign rfl) ?_
  refine EL_nil ?_
  refine EQ_then (EQ_wp ?_)
  refine EW_seq_cut (σ := Hd) (fun s => [(0, s.v)]) (fun s => I0) (fun s => L0) (fun s => ∀ J M, I.le J → Incl L M → Bytes J M s.a s.n s.c (l.take 1024)) ?_ ?_
  · skip
    refine EW_seq ?_
    -- region 1  law.go:62
    refine EW_region ?_
    refine EL_s rfl rfl rfl (os_move rfl) ?_
    refine EL_s rfl rfl rfl (os_len rfl sl49) ?_
    refine EL_s rfl rfl rfl (os_gtr rfl rfl) ?_
    refine EL_nil ?_
    refine EQ_then (EQ_wp ?_)
    refine EW_cond rfl (fun h => ?_) (fun h => ?_)
    · try simp only [decide_eq_true_eq, decide_eq_false_iff_not, Bool.not_eq_true', Bool.not_eq_false'] at h
      -- region 2  law.go:63
      refine EW_region ?_
      refine EL_s rfl rfl rfl (os_move rfl) ?_
      refine EL_s rfl rfl rfl (os_sub_slice (k := .i64) (k' := .i64) 0 1024 rfl sl49 rfl ⟨_, rfl, rfl⟩ (by omega) (by omega)) ?_
      refine EL_s rfl rfl rfl (os_assign rfl) ?_
      refine EL_nil ?_
      refine EQ_cut ⟨(if c = 0 then a else a.map (·.add (0 * 1))), 1024 - 0, c - 0⟩ ?_ ?_ ?_
      · exact (fun J M hJ hM => by have := Bytes.sub (hbI.mono hJ hM) (i := 0) (j := 1024) (by omega) (by omega); rwa [show l.extract 0 1024 = l.take 1024 from by simp] at this)
      · exact ⟨rfl, trivial⟩
      · exact fun w h => h
    · try simp only [decide_eq_true_eq, decide_eq_false_iff_not, Bool.not_eq_true', Bool.not_eq_false'] at h
      refine EW_skip ?_
      refine EQ_cut ⟨a, m, c⟩ ?_ ?_ ?_
      · exact (fun J M hJ hM => by rw [List.take_of_length_le (by omega)]; exact hbI.mono hJ hM)
      · exact ⟨rfl, trivial⟩
      · exact fun w h => h
  · rintro s hs
    refine EW_seq ?_
    -- region 3  law.go:65
    refine EW_region ?_
    refine EL_s rfl rfl rfl (os_move rfl) ?_
    refine EL_s rfl rfl rfl (os_assign rfl) ?_
    refine EL_nil ?_
    refine EQ_then (EQ_wp ?_)
    refine EW_ret ?_
    exact pc_ret1 Try.results15 (rv_tmp rfl) (.refl _) (.refl _) ⟨s, rfl, hs⟩ (.inl rfl)

theorem m_twin {I : Gh} {L : List Seg} {p : PF} (hp : p.Ok I) : PC Try.prog 27 #[.agg (pcells p).toArray] I L fun K v => NewP K p.f v := by
  refine PC.of (n := 16) Try.func27 rfl Try.ntmps27 rfl fun I0 L0 hI0 hL0 => ?_
  have hp := hp.mono hI0
  refine EW_seq ?_
  -- region 0  manifest.go:44
  refine EW_region ?_
  refine EL_a rfl rfl rfl (oa_box rfl) ?_; intro b1
  refine EL_a rfl rfl rfl (oa_alloc z53) ?_; intro b2
  refine EL_nil ?_
  refine EQ_then (EQ_wp ?_)
  refine EW_seq ?_
  -- region 1 DRAWN  manifest.go:45
  refine EW_draw [] [.s, .s, .s, .g, .s, .s, .s, .g, .s, .s, .x, .s, .s, .x] [0, 1, 2, 4, 5, 6, 3, 8, 9, 7, 10, 11, 12, 13] mixed (by kernel_rfl) (by kernel_rfl) rfl ?_
  refine EP_s rfl rfl rfl rfl rfl (by exact (os_field rfl fl53_0)) ?_
  refine EP_s rfl rfl rfl rfl rfl (by exact (os_field rfl fl51_0)) ?_
  refine EP_s rfl rfl rfl rfl rfl (by exact (os_load_one rfl one49 (cells_own (own_tail own_head) rfl))) ?_
  refine EP_s rfl rfl rfl rfl rfl (by exact (os_field rfl fl53_0)) ?_
  refine EP_s rfl rfl rfl rfl rfl (by exact (os_field rfl fl51_1)) ?_
  refine EP_s rfl rfl rfl rfl rfl (by exact (os_load_one rfl one49 (cells_own (own_tail own_head) rfl))) ?_
  refine EP_g rfl rfl rfl rfl rfl (by exact (og_call (vs := [_]) body36 rfl (bytes_Clone hp.first.up hp.len1))) ?_
  intro I1 v6 hI1 hv6
  obtain ⟨g1, rfl, hg1⟩ := hv6
  refine EP_s rfl rfl rfl rfl rfl (by exact (os_field rfl fl53_0)) ?_
  refine EP_s rfl rfl rfl rfl rfl (by exact (os_field rfl fl51_0)) ?_
  refine EP_g rfl rfl rfl rfl rfl (by exact (og_call (vs := [_]) body36 rfl (bytes_Clone (hp.mono hI1).last.up hp.len2))) ?_
  intro I2 v10 hI2 hv10
  obtain ⟨g2, rfl, hg2⟩ := hv10
  refine EP_u rfl rfl rfl rfl (by exact (ox_store rfl rfl sz49 rfl (by rfl) (.tail (.head .head)))) ?_
  refine EP_s rfl rfl rfl rfl rfl (by exact (os_field rfl fl53_0)) ?_
  refine EP_s rfl rfl rfl rfl rfl (by exact (os_field rfl fl51_1)) ?_
  refine EP_u rfl rfl rfl rfl (by exact (ox_store rfl rfl sz49 rfl (by rfl) (.tail (.head .head)))) ?_
  refine EP_nil ?_
  refine EQ_then (EQ_wp ?_)
  refine EW_seq ?_
  -- region 2  manifest.go:46
  refine EW_region ?_
  refine EL_s rfl rfl rfl (os_load_agg (cs := [_, _, _, _, _, _]) rfl agg53 (cells_own (own_tail own_head) rfl)) ?_
  refine EL_u rfl rfl (ox_store rfl rfl sz53 rfl (by rfl) (.head .head)) ?_
  refine EL_nil ?_
  refine EQ_then (EQ_wp ?_)
  refine EW_ret ?_
  exact pc_ret1 Try.results27 (rv_agg (cs := [_, _, _, _, _, _]) rfl agg53 (cells_own own_head rfl)) (hI1.trans hI2) (((Incl.refl _).skip _).skip _) ⟨⟨p.f, g1, g2⟩, rfl, ⟨hp.len1, hp.len2, hg1.mono hI2 (.refl _), hg2, hp.num0, hp.num1⟩, rfl⟩ (.inl rfl)

theorem l_file {I : Gh} {L : List Seg} {p : PF} (hp : p.Ok I) : PC Try.prog 14 #[.agg (rcells p).toArray] I L fun K v => NewP K p.f v := by
  refine PC.of (n := 19) Try.func14 rfl Try.ntmps14 rfl fun I0 L0 hI0 hL0 => ?_
  have hp := hp.mono hI0
  refine EW_seq ?_
  -- region 0  law.go:14
  refine EW_region ?_
  refine EL_a rfl rfl rfl (oa_box rfl) ?_; intro b1
  refine EL_a rfl rfl rfl (oa_alloc z53) ?_; intro b2
  refine EL_nil ?_
  refine EQ_then (EQ_wp ?_)
  refine EW_seq ?_
  -- region 1 DRAWN  law.go:15
  refine EW_draw [] [.s, .s, .s, .s, .s, .s, .g, .s, .s, .g, .s, .s, .s, .s, .s, .s, .x] [0, 1, 2, 3, 4, 5, 7, 8, 10, 11, 12, 13, 6, 9, 14, 15, 16] mixed (by kernel_rfl) (by kernel_rfl) rfl ?_
  refine EP_s rfl rfl rfl rfl rfl (by exact (os_field rfl fl55_0)) ?_
  refine EP_s rfl rfl rfl rfl rfl (by exact (os_load_one rfl one23 (cells_own (own_tail own_head) rfl))) ?_
  refine EP_s rfl rfl rfl rfl rfl (by exact (os_field rfl fl55_1)) ?_
  refine EP_s rfl rfl rfl rfl rfl (by exact (os_load_one rfl one3 (cells_own (own_tail own_head) rfl))) ?_
  refine EP_s rfl rfl rfl rfl rfl (by exact (os_field rfl fl55_2)) ?_
  refine EP_s rfl rfl rfl rfl rfl (by exact (os_load_one rfl one49 (cells_own (own_tail own_head) rfl))) ?_
  refine EP_s rfl rfl rfl rfl rfl (by exact (os_field rfl fl55_3)) ?_
  refine EP_s rfl rfl rfl rfl rfl (by exact (os_load_one rfl one49 (cells_own (own_tail own_head) rfl))) ?_
  refine EP_s rfl rfl rfl rfl rfl (by exact (os_field rfl fl55_4)) ?_
  refine EP_s rfl rfl rfl rfl rfl (by exact (os_load_one rfl one3 (cells_own (own_tail own_head) rfl))) ?_
  refine EP_s rfl rfl rfl rfl rfl (by exact (os_field rfl fl55_5)) ?_
  refine EP_s rfl rfl rfl rfl rfl (by exact (os_load_one rfl one3 (cells_own (own_tail own_head) rfl))) ?_
  refine EP_g rfl rfl rfl rfl rfl (by exact (og_call (vs := [_]) body31 rfl (ref_Copy hp.first.up hp.len1))) ?_
  intro I1 v9 hI1 hv9
  obtain ⟨g1, rfl, hg1⟩ := hv9
  refine EP_g rfl rfl rfl rfl rfl (by exact (og_call (vs := [_]) body31 rfl (ref_Copy (hp.mono hI1).last.up hp.len2))) ?_
  intro I2 v12 hI2 hv12
  obtain ⟨g2, rfl, hg2⟩ := hv12
  refine EP_s rfl rfl rfl rfl rfl (by exact (os_struct (cs := [_, _, _, _]) [(0, _), (1, _), (2, _), (3, _)] pl51 z51 rfl rfl)) ?_
  refine EP_s rfl rfl rfl rfl rfl (by exact (os_struct (cs := [_, _, _, _, _, _]) [(1, _), (2, _), (0, _)] pl53 z53 rfl rfl)) ?_
  refine EP_u rfl rfl rfl rfl (by exact (ox_store rfl rfl sz53 rfl (by rfl) (.head .head))) ?_
  refine EP_nil ?_
  refine EQ_then (EQ_wp ?_)
  refine EW_ret ?_
  exact pc_ret1 Try.results14 (rv_agg (cs := [_, _, _, _, _, _]) rfl agg53 (cells_own own_head rfl)) (hI1.trans hI2) (((Incl.refl _).skip _).skip _) ⟨⟨p.f, g1, g2⟩, rfl, ⟨hp.len1, hp.len2, hg1.mono hI2 (.refl _), hg2, hp.num0, hp.num1⟩, rfl⟩ (.inl rfl)

theorem l_told {I : Gh} {L : List Seg} (p : PF) : PC Try.prog 30 #[.agg (pcells p).toArray] I L fun K v => v = .agg (rcells p).toArray := by
  refine PC.of (n := 20) Try.func30 rfl Try.ntmps30 rfl fun I0 L0 hI0 hL0 => ?_
  refine EW_seq ?_
  -- region 0  law.go:18
  refine EW_region ?_
  refine EL_a rfl rfl rfl (oa_box rfl) ?_; intro b1
  refine EL_a rfl rfl rfl (oa_alloc z55) ?_; intro b2
  refine EL_nil ?_
  refine EQ_then (EQ_wp ?_)
  refine EW_seq ?_
  -- region 1  law.go:19
  refine EW_region ?_
  refine EL_s rfl rfl rfl (os_field rfl fl53_1) ?_
  refine EL_s rfl rfl rfl (os_load_one rfl one23 (cells_own (own_tail own_head) rfl)) ?_
  refine EL_s rfl rfl rfl (os_field rfl fl53_2) ?_
  refine EL_s rfl rfl rfl (os_load_one rfl one3 (cells_own (own_tail own_head) rfl)) ?_
  refine EL_s rfl rfl rfl (os_field rfl fl53_0) ?_
  refine EL_s rfl rfl rfl (os_field rfl fl51_0) ?_
  refine EL_s rfl rfl rfl (os_load_one rfl one49 (cells_own (own_tail own_head) rfl)) ?_
  refine EL_s rfl rfl rfl (os_field rfl fl53_0) ?_
  refine EL_s rfl rfl rfl (os_field rfl fl51_1) ?_
  refine EL_s rfl rfl rfl (os_load_one rfl one49 (cells_own (own_tail own_head) rfl)) ?_
  refine EL_s rfl rfl rfl (os_field rfl fl53_0) ?_
  refine EL_s rfl rfl rfl (os_field rfl fl51_2) ?_
  refine EL_s rfl rfl rfl (os_load_one rfl one3 (cells_own (own_tail own_head) rfl)) ?_
  refine EL_s rfl rfl rfl (os_field rfl fl53_0) ?_
  refine EL_s rfl rfl rfl (os_field rfl fl51_3) ?_
  refine EL_s rfl rfl rfl (os_load_one rfl one3 (cells_own (own_tail own_head) rfl)) ?_
  refine EL_s rfl rfl rfl (os_struct (cs := [_, _, _, _, _, _]) [(0, _), (1, _), (2, _), (3, _), (4, _), (5, _)] pl55 z55 rfl rfl) ?_
  refine EL_u rfl rfl (ox_store rfl rfl sz55 rfl (by rfl) (.head .head)) ?_
  refine EL_nil ?_
  refine EQ_then (EQ_wp ?_)
  refine EW_ret ?_
  exact pc_ret1 Try.results30 (rv_agg (cs := [_, _, _, _, _, _]) rfl agg55 (cells_own own_head rfl)) (.refl _) (((Incl.refl _).skip _).skip _) rfl (.inl rfl)


end Go.Proofs.Ytodkbhbbdnjlcaa
