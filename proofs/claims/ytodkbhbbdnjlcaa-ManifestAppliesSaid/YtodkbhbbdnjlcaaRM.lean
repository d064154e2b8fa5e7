/- Proved here: the part RM of the proof that the law of this seat returns true for every input; no condition. -/
import Derived.Test.YtodkbhbbdnjlcaaRL
set_option maxRecDepth 20000
set_option linter.unusedVariables false
set_option linter.unusedSimpArgs false
namespace Go.Proofs.Ytodkbhbbdnjlcaa
open Go Go.Gl


/-- A version that was given. -/
structure VrI (I : Gh) (r : Vr) : Prop where
  row : Row I [] r.h.a r.h.n r.h.c 6 (r.ps.map rcells)
  ok : ∀ p ∈ r.ps, p.Ok I
  nx0 : 0 ≤ r.nx
  nx1 : r.nx ≤ 18446744073709551615
  sq0 : 0 ≤ r.sq
  sq1 : r.sq ≤ 18446744073709551615
theorem VrI.mono {I J : Gh} {r : Vr} (h : VrI I r) (hI : I.le J) : VrI J r := ⟨h.row.mono hI (.refl _), fun p hp => (h.ok p hp).mono hI, h.nx0, h.nx1, h.sq0, h.sq1⟩
theorem VrI.few {I : Gh} {r : Vr} (h : VrI I r) (hn : r.h.n ≤ 20) : r.Ok rcells I := ⟨Row.few h.row h.ok (by omega), h.nx0, h.nx1, h.sq0, h.sq1⟩
theorem abs_len {u w : Vr} (h : u.abs = w.abs) : u.ps.length = w.ps.length := by
  have := congrArg (fun v => v.fs.length) h
  simpa [Vr.abs] using this
theorem abs_elen {u w : Er} (h : u.abs = w.abs) : u.add.length = w.add.length := by
  have := congrArg (fun v => v.add.length) h
  simpa [Er.abs] using this

theorem l_law {I : Gh} {L : List Seg} {r : Vr} (hr : VrI I r) {a : Option Addr} {m c : Nat} {es : List Er} (hes : Row I [] a m c 4 (es.map ecs)) (hok : ∀ e ∈ es, ErI I e) : PC Try.prog 3 #[r.v, .slice a m c] I L fun K v => v = .bool true := by
  refine PC.of (n := 74) Try.func3 rfl Try.ntmps3 rfl fun I0 L0 hI0 hL0 => ?_
  have hr := hr.mono hI0
  have hes := hes.mono hI0 (.refl _)
  have hok := fun e he => (hok e he).mono hI0
  have e1 := hr.row.len
  have e2 := hr.row.le
  have e3 := hr.row.cap
  unfold maxLen at e3
  rw [List.length_map] at e1
  refine EW_seq ?_
  -- region 0  law.go:90
  refine EW_region ?_
  refine EL_a rfl rfl rfl (oa_box rfl) ?_; intro b2
  refine EL_s rfl rfl rfl (os_assign rfl) ?_
  refine EL_nil ?_
  refine EQ_then (EQ_wp ?_)
  refine EW_seq ?_
  refine EW_seq ?_
  -- region 1  law.go:91
  refine EW_region ?_
  refine EL_g rfl rfl rfl (og_call (vs := []) body4 rfl l_awake) ?_; intro I1 v12 hI1 hv12
  obtain rfl := hv12
  refine EL_s rfl rfl rfl (os_not rfl) ?_
  refine EL_nil ?_
  refine EQ_then (EQ_wp ?_)
  refine EW_cond rfl (fun h => ?_) (fun h => ?_)
  · try simp only [decide_eq_true_eq, decide_eq_false_iff_not, Bool.not_eq_true', Bool.not_eq_false'] at h
    all_goals (exact absurd h (by decide))
  · try simp only [decide_eq_true_eq, decide_eq_false_iff_not, Bool.not_eq_true', Bool.not_eq_false'] at h
    refine EW_skip ?_
    refine EQ_then (EQ_wp ?_)
    refine EW_seq_cut (σ := Vr) (fun rv => [(1, .slice a m c), (2, .pointer (some ⟨b2, 0, none⟩))]) (fun rv => I1) (fun rv => [(b2, .cells rv.v.cells 25)] :: L0) (fun rv => rv.Ok rcells I1 ∧ rv.ps.length ≤ 20) ?_ ?_
    · skip
      refine EW_seq ?_
      -- region 3  law.go:94
      refine EW_region ?_
      refine EL_s rfl rfl rfl (os_field rfl fl25_0) ?_
      refine EL_s rfl rfl rfl (os_load_one rfl one22 (cells_own own_head rfl)) ?_
      refine EL_s rfl rfl rfl (os_len rfl sl22) ?_
      refine EL_s rfl rfl rfl (os_gtr rfl rfl) ?_
      refine EL_nil ?_
      refine EQ_then (EQ_wp ?_)
      refine EW_cond rfl (fun h => ?_) (fun h => ?_)
      · try simp only [decide_eq_true_eq, decide_eq_false_iff_not, Bool.not_eq_true', Bool.not_eq_false'] at h
        -- region 4  law.go:95
        refine EW_region ?_
        refine EL_s rfl rfl rfl (os_field rfl fl25_0) ?_
        refine EL_s rfl rfl rfl (os_load_one rfl one22 (cells_own own_head rfl)) ?_
        refine EL_s rfl rfl rfl (os_slice_to 20 rfl rfl rfl sl22 (by omega)) ?_
        refine EL_s rfl rfl rfl (os_field rfl fl25_0) ?_
        refine EL_u rfl rfl (ox_store rfl rfl sz22 rfl (by rfl) (.head .head)) ?_
        refine EL_nil ?_
        refine EQ_cut ⟨⟨r.h.a, 20, r.h.c⟩, r.ps.take 20, r.nx, r.sq⟩ ?_ ?_ ?_
        · exact ⟨VrI.few ⟨by rw [List.map_take]; exact (hr.mono hI1).row.take 20 (by omega), fun p hp => (hr.mono hI1).ok p (List.mem_of_mem_take hp), hr.nx0, hr.nx1, hr.sq0, hr.sq1⟩ (Nat.le_refl _), by simp; omega⟩
        · exact ⟨rfl, rfl, trivial⟩
        · exact fun w h => h
      · try simp only [decide_eq_true_eq, decide_eq_false_iff_not, Bool.not_eq_true', Bool.not_eq_false'] at h
        refine EW_skip ?_
        refine EQ_cut r ?_ ?_ ?_
        · exact ⟨(hr.mono hI1).few (by omega), by omega⟩
        · exact ⟨rfl, rfl, trivial⟩
        · exact fun w h => h
    · rintro rv ⟨hrv, hrl⟩
      refine EW_seq ?_
      -- region 5  law.go:97
      refine EW_region ?_
      refine EL_s rfl rfl rfl (os_load_agg (cs := [_, _, _]) rfl agg25 (cells_own own_head rfl)) ?_
      refine EL_g rfl rfl rfl (og_call (vs := [_]) body5 rfl (l_version rv hrv)) ?_; intro I3 v23 hI3 hv23
      obtain ⟨u, rfl, hu, hua⟩ := hv23
      refine EL_a rfl rfl rfl (oa_alloc z30) ?_; intro b5
      refine EL_u rfl rfl (ox_store rfl rfl sz30 rfl (by rfl) (.head .head)) ?_
      refine EL_nil ?_
      refine EQ_then (EQ_wp ?_)
      refine EW_seq ?_
      refine EW_seq ?_
      -- region 6  law.go:98
      refine EW_region ?_
      refine EL_s rfl rfl rfl (os_move rfl) ?_
      refine EL_g rfl rfl rfl (og_call (vs := [_, _]) body6 rfl (l_some (hes.mono (hI1.trans hI3) (.refl _)) (fun e he => (hok e he).mono (hI1.trans hI3)))) ?_; intro I4 v25 hI4 hv25
      obtain ⟨a3, n3, c3, qs, rfl, hq, hqo, hql⟩ := hv25
      have hqn := hq.len
      rw [List.length_map] at hqn
      refine EL_s rfl rfl rfl (os_len rfl sl26) ?_
      refine EL_s rfl rfl rfl (os_move rfl) ?_
      refine EL_nil ?_
      refine EQ_then (EQ_wp ?_)
      refine EW_block ?_
      refine EW_loop (σ := Gh × Nat × Vr × Vr) (fun ⟨J, k, u, w⟩ => [(2, .pointer (some ⟨b2, 0, none⟩)), (5, .pointer (some ⟨b5, 0, none⟩)), (25, .slice a3 n3 c3), (26, .int .i64 (n3 : Int)), (27, .int .i64 (k : Int))]) (fun ⟨J, k, u, w⟩ => J) (fun ⟨J, k, u, w⟩ => [(b5, .cells u.v.cells 30)] :: [(b2, .cells w.v.cells 25)] :: L0) (fun ⟨J, k, u, w⟩ => I4.le J ∧ k ≤ n3 ∧ u.Ok pcells J ∧ w.Ok rcells J ∧ u.abs = w.abs ∧ w.ps.length ≤ 20 + 8 * k) (fun ⟨J, k, u, w⟩ => n3 - k) (I4, 0, u, rv) ⟨.refl _, Nat.zero_le _, hu.mono hI4, hrv.mono (hI3.trans hI4), hua, by omega⟩ (by exact ⟨rfl, rfl, rfl, rfl, rfl, trivial⟩) (fun w h => h) ?_
      rintro ⟨J, k, u, w⟩ ⟨hJ, hk, hu, hw, hab, hwl⟩
      have hl9 := abs_len hab
      refine EW_seq ?_
      -- region 7  law.go:98
      refine EW_region ?_
      refine EL_s rfl rfl rfl (os_lss rfl rfl) ?_
      refine EL_nil ?_
      refine EQ_then (EQ_wp ?_)
      refine EW_seq ?_
      refine EW_cond rfl (fun h => ?_) (fun h => ?_)
      · try simp only [decide_eq_true_eq, decide_eq_false_iff_not, Bool.not_eq_true', Bool.not_eq_false'] at h
        refine EW_skip ?_
        refine EQ_then (EQ_wp ?_)
        refine EW_seq ?_
        refine EW_block ?_
        refine EW_seq ?_
        obtain ⟨e, he⟩ := get_some (l := qs) (k := k) (by omega)
        have heo := ((hqo e (List.mem_of_getElem? he)).1).mono hJ
        have h8 := (hqo e (List.mem_of_getElem? he)).2
        -- region 8  law.go:98
        refine EW_region ?_
        refine EL_s rfl rfl rfl (os_at (k) rfl rfl (by omega) sl26 (by omega) (hq.some (by omega))) ?_
        refine EL_s rfl rfl rfl (os_load_agg (cs := ecs e) rfl agg35 (hq.cells (List.getElem?_map .. |>.trans (congrArg _ he)) hJ (.nil _))) ?_
        refine EL_a rfl rfl rfl (oa_alloc z35) ?_; intro b7
        refine EL_u rfl rfl (ox_store rfl rfl sz35 rfl (by rfl) (.head .head)) ?_
        refine EL_nil ?_
        refine EQ_then (EQ_wp ?_)
        refine EW_seq ?_
        refine EW_seq ?_
        -- region 9 DRAWN  law.go:99
        refine EW_draw [] [.s, .s, .s, .s, .s] [0, 1, 2, 3, 4] mixed (by kernel_rfl) (by kernel_rfl) rfl ?_
        refine EP_s rfl rfl rfl rfl rfl (by exact (os_load_agg (cs := vcells u.h u.nx u.sq) rfl agg30 (cells_own (own_tail own_head) rfl))) ?_
        refine EP_s rfl rfl rfl rfl rfl (by exact (os_call (vs := [_]) body7 rfl (m_Right hu))) ?_
        refine EP_s rfl rfl rfl rfl rfl (by exact (os_load_agg (cs := vcells w.h w.nx w.sq) rfl agg25 (cells_own (own_tail (own_tail own_head)) rfl))) ?_
        refine EP_s rfl rfl rfl rfl rfl (by exact (os_call (vs := [_]) body8 rfl (r_Right hw))) ?_
        refine EP_s rfl rfl rfl rfl rfl (by exact (os_neq_bool rfl rfl bool4)) ?_
        refine EP_nil ?_
        refine EQ_then (EQ_wp ?_)
        refine EW_cond rfl (fun h => ?_) (fun h => ?_)
        · try simp only [decide_eq_true_eq, decide_eq_false_iff_not, Bool.not_eq_true', Bool.not_eq_false'] at h
          rw [right_eq, hab, bne_self_eq_false] at h; cases h
        · try simp only [decide_eq_true_eq, decide_eq_false_iff_not, Bool.not_eq_true', Bool.not_eq_false'] at h
          refine EW_skip ?_
          refine EQ_then (EQ_wp ?_)
          refine EW_seq ?_
          -- region 11 DRAWN  law.go:102
          refine EW_draw ([]) [.s, .s, .g, .g, .s, .s, .r, .a, .y, .s] [0, 1, 2, 3, 4, 5, 6, 7, 8, 9] mixed (by kernel_rfl) (by kernel_rfl) rfl ?_
          refine EP_s rfl rfl rfl rfl rfl (by exact (os_load_agg (cs := vcells u.h u.nx u.sq) rfl agg30 (cells_own (own_tail own_head) rfl))) ?_
          refine EP_s rfl rfl rfl rfl rfl (by exact (os_load_agg (cs := ecs e) rfl agg35 (cells_own own_head rfl))) ?_
          refine EP_g rfl rfl rfl rfl rfl (by exact (og_call (vs := [_]) body10 rfl (l_change e heo))) ?_
          intro I6 v39 hI6 hv39
          obtain ⟨e2, rfl, he2, hea⟩ := hv39
          have hel := abs_elen hea
          refine EP_g rfl rfl rfl rfl rfl (by exact (og_call (vs := [_, _]) body9 rfl (m_Apply (hu.mono hI6) he2 (by omega)))) ?_
          intro I7 v40 hI7 hv40
          obtain ⟨w1, c1, rfl, hw1, hA1⟩ := hv40
          refine EP_s rfl rfl rfl rfl rfl (by exact (os_move rfl)) ?_
          refine EP_s rfl rfl rfl rfl rfl (by exact (os_extract rfl rfl)) ?_
          refine EP_r rfl rfl rfl rfl rfl (Incl.nil _) (by exact (os_extract rfl rfl)) ?_
          refine EP_a rfl rfl rfl rfl rfl (by exact (oa_alloc z30)) ?_
          intro b8
          refine EP_kz rfl rfl rfl rfl (by exact (ox_store rfl rfl sz30 rfl (by rfl) (.head .head))) (fun _ _ _ => Incl.nil _) ?_
          rintro _ _ rfl
          refine EP_s rfl rfl rfl rfl rfl (by exact (os_assign rfl)) ?_
          refine EP_nil ?_
          refine EQ_then (EQ_wp ?_)
          refine EW_seq ?_
          -- region 12  law.go:103
          refine EW_region ?_
          refine EL_s rfl rfl rfl (os_load_agg (cs := vcells w.h w.nx w.sq) rfl agg25 (cells_own (own_tail (own_tail (own_tail own_head))) rfl)) ?_
          refine EL_s rfl rfl rfl (os_load_agg (cs := ecs e) rfl agg35 (cells_own (own_tail own_head) rfl)) ?_
          refine EL_g rfl rfl rfl (og_call (vs := [_, _]) body11 rfl (r_Apply (hw.mono (hI6.trans hI7)) (heo.mono (hI6.trans hI7)) (by omega))) ?_; intro I8 v46 hI8 hv46
          obtain ⟨w2, c2, rfl, hw2, hA2⟩ := hv46
          rw [hab, hea] at hA1
          have hA2M := hA1
          obtain ⟨hab2, rfl⟩ := apply_eq hA1 hA2
          refine EL_s rfl rfl rfl (os_move rfl) ?_
          refine EL_s rfl rfl rfl (os_extract rfl rfl) ?_
          refine EL_s rfl rfl rfl (os_extract rfl rfl) ?_
          refine EL_a rfl rfl rfl (oa_alloc z25) ?_; intro b10
          refine EL_u rfl rfl (ox_store rfl rfl sz25 rfl (by rfl) (.head .head)) ?_
          refine EL_s rfl rfl rfl (os_assign rfl) ?_
          refine EL_nil ?_
          refine EQ_then (EQ_wp ?_)
          refine EW_seq ?_
          refine EW_seq ?_
          -- region 13 DRAWN  law.go:104
          refine EW_draw [] [.s, .s, .s, .s, .s, .g, .s, .s, .s, .s, .s, .s, .g, .s, .s, .s, .s] [0, 1, 2, 3, 4, 6, 5, 7, 8, 9, 10, 11, 13, 12, 14, 15, 16] mixed (by kernel_rfl) (by kernel_rfl) rfl ?_
          refine EP_s rfl rfl rfl rfl rfl (by exact (os_move rfl)) ?_
          refine EP_s rfl rfl rfl rfl rfl (by exact (os_move rfl)) ?_
          refine EP_s rfl rfl rfl rfl rfl (by exact (os_neq rfl rfl)) ?_
          refine EP_s rfl rfl rfl rfl rfl (by exact (os_move rfl)) ?_
          refine EP_split (t := 52) rfl (fun h => ?_) (fun h => ?_)
          · try simp only [decide_eq_true_eq, decide_eq_false_iff_not, Bool.not_eq_true', Bool.not_eq_false'] at h
            refine EP_no rfl rfl rfl rfl rfl rfl rfl ?_
            refine EP_no rfl rfl rfl rfl rfl rfl rfl ?_
            refine EP_no rfl rfl rfl rfl rfl rfl rfl ?_
            refine EP_no rfl rfl rfl rfl rfl rfl rfl ?_
            refine EP_no rfl rfl rfl rfl rfl rfl rfl ?_
            refine EP_s rfl rfl rfl rfl rfl (by exact (os_pick_t rfl rfl)) ?_
            refine EP_s rfl rfl rfl rfl rfl (by exact (os_move rfl)) ?_
            refine EP_no rfl rfl rfl rfl rfl rfl rfl ?_
            refine EP_no rfl rfl rfl rfl rfl rfl rfl ?_
            refine EP_no rfl rfl rfl rfl rfl rfl rfl ?_
            refine EP_no rfl rfl rfl rfl rfl rfl rfl ?_
            refine EP_no rfl rfl rfl rfl rfl rfl rfl ?_
            refine EP_s rfl rfl rfl rfl rfl (by exact (os_pick_t rfl rfl)) ?_
            refine EP_nil ?_
            refine EQ_then (EQ_wp ?_)
            refine EW_true rfl ?_
            refine EW_seq ?_
            -- region 14  law.go:105
            refine EW_region ?_
            refine EL_s rfl rfl rfl (os_assign rfl) ?_
            refine EL_nil ?_
            refine EQ_then (EQ_wp ?_)
            refine EW_ret ?_
            refine EQ_then_ret (EQ_block_ret (EQ_then_ret (EQ_then_ret (EQ_block_ret (EQ_then_ret (?_))))))
            exact absurd trivial h
          · try simp only [decide_eq_true_eq, decide_eq_false_iff_not, Bool.not_eq_true', Bool.not_eq_false'] at h
            refine EP_s_yes rfl rfl rfl rfl rfl rfl rfl (by exact (os_load_agg (cs := vcells w1.h w1.nx w1.sq) rfl agg30 (cells_own (own_tail own_head) rfl))) ?_
            refine EP_s_yes rfl rfl rfl rfl rfl rfl rfl (by exact (os_load_agg (cs := vcells w2.h w2.nx w2.sq) rfl agg25 (cells_own own_head rfl))) ?_
            refine EP_g_yes rfl rfl rfl rfl rfl rfl rfl (by exact (og_call (vs := [_]) body13 rfl (l_toldVersion w1 (hw1.mono hI8)))) ?_
            intro I9 v54 hI9 hv54
            obtain ⟨x1, rfl, hx1, hxa1⟩ := hv54
            refine EP_s_yes rfl rfl rfl rfl rfl rfl rfl (by exact (os_call (vs := [_, _]) body12 rfl (r_SameVersion hx1 (hw2.mono hI9)))) ?_
            refine EP_s_yes rfl rfl rfl rfl rfl rfl rfl (by exact (os_not rfl)) ?_
            refine EP_s rfl rfl rfl rfl rfl (by exact (os_pick_f rfl rfl)) ?_
            refine EP_s rfl rfl rfl rfl rfl (by exact (os_move rfl)) ?_
            refine EP_split (t := 59) rfl (fun h => ?_) (fun h => ?_)
            · try simp only [decide_eq_true_eq, decide_eq_false_iff_not, Bool.not_eq_true', Bool.not_eq_false'] at h
              refine EP_no rfl rfl rfl rfl rfl rfl rfl ?_
              refine EP_no rfl rfl rfl rfl rfl rfl rfl ?_
              refine EP_no rfl rfl rfl rfl rfl rfl rfl ?_
              refine EP_no rfl rfl rfl rfl rfl rfl rfl ?_
              refine EP_no rfl rfl rfl rfl rfl rfl rfl ?_
              refine EP_s rfl rfl rfl rfl rfl (by exact (os_pick_t rfl rfl)) ?_
              refine EP_nil ?_
              refine EQ_then (EQ_wp ?_)
              refine EW_true rfl ?_
              refine EW_seq ?_
              -- region 14  law.go:105
              refine EW_region ?_
              refine EL_s rfl rfl rfl (os_assign rfl) ?_
              refine EL_nil ?_
              refine EQ_then (EQ_wp ?_)
              refine EW_ret ?_
              refine EQ_then_ret (EQ_block_ret (EQ_then_ret (EQ_then_ret (EQ_block_ret (EQ_then_ret (?_))))))
              rw [(sameV_iff _ _).2 (hxa1.trans hab2)] at h; cases h
            · try simp only [decide_eq_true_eq, decide_eq_false_iff_not, Bool.not_eq_true', Bool.not_eq_false'] at h
              refine EP_s_yes rfl rfl rfl rfl rfl rfl rfl (by exact (os_load_agg (cs := vcells u.h u.nx u.sq) rfl agg30 (cells_own (own_tail (own_tail (own_tail own_head))) rfl))) ?_
              refine EP_s_yes rfl rfl rfl rfl rfl rfl rfl (by exact (os_load_agg (cs := vcells w.h w.nx w.sq) rfl agg25 (cells_own (own_tail (own_tail (own_tail (own_tail own_head)))) rfl))) ?_
              refine EP_g_yes rfl rfl rfl rfl rfl rfl rfl (by exact (og_call (vs := [_]) body13 rfl (l_toldVersion u (hu.mono (hI6.trans (hI7.trans (hI8.trans hI9))))))) ?_
              intro I10 v61 hI10 hv61
              obtain ⟨x2, rfl, hx2, hxa2⟩ := hv61
              refine EP_s_yes rfl rfl rfl rfl rfl rfl rfl (by exact (os_call (vs := [_, _]) body12 rfl (r_SameVersion hx2 (hw.mono (hI6.trans (hI7.trans (hI8.trans (hI9.trans hI10)))))))) ?_
              refine EP_s_yes rfl rfl rfl rfl rfl rfl rfl (by exact (os_not rfl)) ?_
              refine EP_s rfl rfl rfl rfl rfl (by exact (os_pick_f rfl rfl)) ?_
              refine EP_nil ?_
              refine EQ_then (EQ_wp ?_)
              refine EW_cond rfl (fun h => ?_) (fun h => ?_)
              · try simp only [decide_eq_true_eq, decide_eq_false_iff_not, Bool.not_eq_true', Bool.not_eq_false'] at h
                rw [(sameV_iff _ _).2 (hxa2.trans hab)] at h; cases h
              · try simp only [decide_eq_true_eq, decide_eq_false_iff_not, Bool.not_eq_true', Bool.not_eq_false'] at h
                refine EW_skip ?_
                refine EQ_then (EQ_wp ?_)
                refine EW_seq ?_
                -- region 15  law.go:107
                refine EW_region ?_
                refine EL_s rfl rfl rfl (os_move rfl) ?_
                refine EL_s rfl rfl rfl (os_eql rfl rfl) ?_
                refine EL_nil ?_
                refine EQ_then (EQ_wp ?_)
                refine EW_cond rfl (fun h => ?_) (fun h => ?_)
                · try simp only [decide_eq_true_eq, decide_eq_false_iff_not, Bool.not_eq_true', Bool.not_eq_false'] at h
                  have hc0 := h
                  refine EW_seq ?_
                  refine EW_seq ?_
                  -- region 16  law.go:108
                  refine EW_region ?_
                  refine EL_s rfl rfl rfl (os_load_agg (cs := vcells w1.h w1.nx w1.sq) rfl agg30 (cells_own (own_tail own_head) rfl)) ?_
                  refine EL_s rfl rfl rfl (os_call (vs := [_]) body7 rfl (m_Right (hw1.mono (hI8.trans (hI9.trans hI10))))) ?_
                  refine EL_s rfl rfl rfl (os_not rfl) ?_
                  refine EL_nil ?_
                  refine EQ_then (EQ_wp ?_)
                  refine EW_cond rfl (fun h => ?_) (fun h => ?_)
                  · try simp only [decide_eq_true_eq, decide_eq_false_iff_not, Bool.not_eq_true', Bool.not_eq_false'] at h
                    rw [apply_right hA2M hc0] at h; cases h
                  · try simp only [decide_eq_true_eq, decide_eq_false_iff_not, Bool.not_eq_true', Bool.not_eq_false'] at h
                    refine EW_skip ?_
                    refine EQ_then (EQ_wp ?_)
                    -- region 18 DRAWN  law.go:111
                    refine EW_draw ([[(b10, .cells w2.v.cells 25)]]) [.s, .r, .y, .x] [0, 1, 2, 3] mixed (by kernel_rfl) (by kernel_rfl) rfl ?_
                    refine EP_s rfl rfl rfl rfl rfl (by exact (os_load_agg (cs := vcells w1.h w1.nx w1.sq) rfl agg30 (cells_own (own_tail own_head) rfl))) ?_
                    refine EP_r rfl rfl rfl rfl rfl ((Incl.nil _).cons _) (by exact (os_load_agg (cs := vcells w2.h w2.nx w2.sq) rfl agg25 (cells_own own_head rfl))) ?_
                    refine EP_kz rfl rfl rfl rfl (by exact (ox_store rfl rfl sz30 rfl (by rfl) (.tail (.tail (.tail (.head .head)))))) (fun M u hp => by subst hp; exact ((Incl.nil _).cons _)) ?_
                    rintro _ _ rfl
                    refine EP_u rfl rfl rfl rfl (by exact (ox_store rfl rfl sz25 rfl (by rfl) (.tail (.tail (.tail (.tail (.head .head))))))) ?_
                    refine EP_nil ?_
                    refine EQ_block_normal ?_
                    refine EQ_then (EQ_wp ?_)
                    -- region 19  law.go:98
                    refine EW_region ?_
                    refine EL_s rfl rfl rfl (os_add_in rfl rfl (IntWalk.i64_in _ (by omega))) ?_
                    refine EL_s rfl rfl rfl (os_move rfl) ?_
                    refine EL_nil ?_
                    refine EQ_round (I10, k + 1, w1, w2) ?_ ?_ ?_ ?_
                    · exact ⟨hJ.trans (hI6.trans (hI7.trans (hI8.trans (hI9.trans hI10)))), by omega, hw1.mono (hI8.trans (hI9.trans hI10)), hw2.mono (hI9.trans hI10), hab2, by have h7 := apply_len hA2M; have h9 := abs_len hab2; simp [Vr.abs, Er.abs] at h7; omega⟩
                    · first | omega | (dsimp only; omega)
                    · exact ⟨rfl, rfl, rfl, rfl, rfl, trivial⟩
                    · exact fun w h => h.incl ((((Incl.refl _).skip _).skip _).skip _)
                · try simp only [decide_eq_true_eq, decide_eq_false_iff_not, Bool.not_eq_true', Bool.not_eq_false'] at h
                  refine EW_skip ?_
                  refine EQ_block_normal ?_
                  refine EQ_then (EQ_wp ?_)
                  -- region 19  law.go:98
                  refine EW_region ?_
                  refine EL_s rfl rfl rfl (os_add_in rfl rfl (IntWalk.i64_in _ (by omega))) ?_
                  refine EL_s rfl rfl rfl (os_move rfl) ?_
                  refine EL_nil ?_
                  refine EQ_round (I10, k + 1, u, w) ?_ ?_ ?_ ?_
                  · exact ⟨hJ.trans (hI6.trans (hI7.trans (hI8.trans (hI9.trans hI10)))), by omega, hu.mono (hI6.trans (hI7.trans (hI8.trans (hI9.trans hI10)))), hw.mono (hI6.trans (hI7.trans (hI8.trans (hI9.trans hI10)))), hab, by omega⟩
                  · first | omega | (dsimp only; omega)
                  · exact ⟨rfl, rfl, rfl, rfl, rfl, trivial⟩
                  · exact fun w h => h.incl ((((Incl.refl _).skip _).skip _).skip _)
      · try simp only [decide_eq_true_eq, decide_eq_false_iff_not, Bool.not_eq_true', Bool.not_eq_false'] at h
        refine EW_exit ?_
        refine EQ_then_exit (EQ_then_exit (EQ_block_exit (?_)))
        refine EQ_then (EQ_wp ?_)
        refine EW_seq ?_
        -- region 20  law.go:114
        refine EW_region ?_
        refine EL_s rfl rfl rfl (os_assign rfl) ?_
        refine EL_nil ?_
        refine EQ_then (EQ_wp ?_)
        refine EW_ret ?_
        exact pc_ret1 Try.results3 (rv_tmp rfl) (hI1.trans (hI3.trans (hI4.trans hJ))) (((Incl.refl _).skip _).skip _) rfl (.inl rfl)


end Go.Proofs.Ytodkbhbbdnjlcaa
