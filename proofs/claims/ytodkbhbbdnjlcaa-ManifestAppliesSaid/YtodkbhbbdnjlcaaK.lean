/- Proved here: the part K of the proof that the law of this seat returns true for every input; no condition. -/
import Derived.Test.YtodkbhbbdnjlcaaJ
set_option maxRecDepth 20000
set_option linter.unusedVariables false
set_option linter.unusedSimpArgs false
namespace Go.Proofs.Ytodkbhbbdnjlcaa
open Go Go.Gl

theorem m_Apply {I : Gh} {L : List Seg} {r : Vr} (hr : r.Ok pcells I) {e : Er} (he : e.Ok pcells I) (hfew : r.ps.length + e.add.length ≤ 1000) : PC Try.prog 9 #[r.v, e.v] I L fun K v => ∃ (w : Vr) (code : Int), v = .tuple #[w.v, .int .i64 code] ∧ w.Ok pcells K ∧ ApplyM r.abs e.abs w.abs code := by
  refine PC.of (n := 87) Try.func9 rfl Try.ntmps9 rfl fun I0 L0 hI0 hL0 => ?_
  have hr := hr.mono hI0
  have he := he.mono hI0
  have e1 := hr.row.len
  have few := hr.row.few
  have e2 := he.add.len
  have e3 := he.drop.len
  have few2 := he.few
  simp only [u64s, List.length_map] at e3
  refine EW_seq ?_
  -- region 0  manifest.go:89
  refine EW_region ?_
  refine EL_a rfl rfl rfl (oa_box rfl) ?_; intro b2
  refine EL_a rfl rfl rfl (oa_box rfl) ?_; intro b3
  refine EL_a rfl rfl rfl (oa_alloc z30) ?_; intro b4
  refine EL_s rfl rfl rfl (os_assign rfl) ?_
  refine EL_nil ?_
  refine EQ_then (EQ_wp ?_)
  refine EW_seq ?_
  refine EW_seq ?_
  -- region 1  manifest.go:90
  refine EW_region ?_
  refine EL_s rfl rfl rfl (os_load_agg (cs := [_, _, _]) rfl agg30 (cells_own (own_tail (own_tail own_head)) rfl)) ?_
  refine EL_s rfl rfl rfl (os_call (vs := [_]) body7 rfl (m_Right hr)) ?_
  refine EL_s rfl rfl rfl (os_not rfl) ?_
  refine EL_nil ?_
  refine EQ_then (EQ_wp ?_)
  refine EW_cond rfl (fun h => ?_) (fun h => ?_)
  · try simp only [decide_eq_true_eq, decide_eq_false_iff_not, Bool.not_eq_true', Bool.not_eq_false'] at h
    have hR := h
    refine EW_seq ?_
    -- region 2  manifest.go:91
    refine EW_region ?_
    refine EL_s rfl rfl rfl (os_struct (cs := [_, _, _]) [] pl30 z30 rfl rfl) ?_
    refine EL_u rfl rfl (ox_store rfl rfl sz30 rfl (by rfl) (.head .head)) ?_
    refine EL_s rfl rfl rfl (os_assign rfl) ?_
    refine EL_nil ?_
    refine EQ_then (EQ_wp ?_)
    refine EW_ret ?_
    refine EQ_then_ret (?_)
    exact pc_ret2 Try.results9 (rv_agg (cs := [_, _, _]) rfl agg30 (cells_own own_head rfl)) (rv_tmp rfl) (.refl _) ((((Incl.refl _).skip _).skip _).skip _) ⟨Vr0, 3, rfl, Vr0_ok _ _, .form hR⟩ (.inl rfl)
  · try simp only [decide_eq_true_eq, decide_eq_false_iff_not, Bool.not_eq_true', Bool.not_eq_false'] at h
    have hR := h
    refine EW_skip ?_
    refine EQ_then (EQ_wp ?_)
    refine EW_seq_cut (σ := Vr) (fun rb => [(2, .pointer (some ⟨b2, 0, none⟩)), (3, .pointer (some ⟨b3, 0, none⟩)), (4, .pointer (some ⟨b4, 0, none⟩))]) (fun rb => I0) (fun rb => [(b4, .cells Vr0.v.cells 30)] :: [(b3, .cells e.v.cells 42)] :: [(b2, .cells rb.v.cells 30)] :: L0) (fun rb => rb.Ok pcells I0 ∧ rb.abs = baseV r.abs e.abs ∧ rb.ps.length ≤ r.ps.length) ?_ ?_
    · skip
      refine EW_seq ?_
      -- region 3  manifest.go:93
      refine EW_region ?_
      refine EL_s rfl rfl rfl (os_field rfl fl42_0) ?_
      refine EL_s rfl rfl rfl (os_load_one rfl one4 (cells_own (own_tail own_head) rfl)) ?_
      refine EL_nil ?_
      refine EQ_then (EQ_wp ?_)
      refine EW_cond rfl (fun h => ?_) (fun h => ?_)
      · try simp only [decide_eq_true_eq, decide_eq_false_iff_not, Bool.not_eq_true', Bool.not_eq_false'] at h
        -- region 4  manifest.go:94
        refine EW_region ?_
        refine EL_s rfl rfl rfl (os_struct (cs := [_, _, _]) [] pl30 z30 rfl rfl) ?_
        refine EL_u rfl rfl (ox_store rfl rfl sz30 rfl (by rfl) (.tail (.tail (.head .head)))) ?_
        refine EL_nil ?_
        refine EQ_cut Vr0 ?_ ?_ ?_
        · exact ⟨Vr0_ok _ _, by rw [baseV, if_pos (by assumption)]; rfl, Nat.zero_le _⟩
        · exact ⟨rfl, rfl, rfl, trivial⟩
        · exact fun w h => h
      · try simp only [decide_eq_true_eq, decide_eq_false_iff_not, Bool.not_eq_true', Bool.not_eq_false'] at h
        refine EW_skip ?_
        refine EQ_cut r ?_ ?_ ?_
        · exact ⟨hr, by rw [baseV, if_neg (by simpa [Er.abs] using h)], Nat.le_refl _⟩
        · exact ⟨rfl, rfl, rfl, trivial⟩
        · exact fun w h => h
    · rintro rb ⟨hb, hbase, hbl⟩
      refine EW_seq ?_
      -- region 5  manifest.go:96
      refine EW_region ?_
      refine EL_s rfl rfl rfl (os_field rfl fl30_0) ?_
      refine EL_s rfl rfl rfl (os_load_one rfl one28 (cells_own (own_tail (own_tail own_head)) rfl)) ?_
      refine EL_x rfl rfl (ox_make (vs := [_]) body21 rfl (m_twins (hb.row.mono (.refl _) (.nil _)))) ?_; rintro I1 L1 v1 hI1 ⟨S1, rfl, a1, m1, c1, qs1, rfl, ho1, hq1⟩
      refine EL_s rfl rfl rfl (os_assign rfl) ?_
      refine EL_nil ?_
      refine EQ_then (EQ_wp ?_)
      refine EW_seq ?_
      refine EW_seq ?_
      -- region 6  manifest.go:97
      refine EW_region ?_
      refine EL_s rfl rfl rfl (os_field rfl fl42_2) ?_
      refine EL_s rfl rfl rfl (os_load_one rfl one33 (cells_own (own_tail (own_tail own_head)) rfl)) ?_
      refine EL_s rfl rfl rfl (os_len rfl sl33) ?_
      refine EL_s rfl rfl rfl (os_move rfl) ?_
      refine EL_nil ?_
      refine EQ_then (EQ_wp ?_)
      refine EW_block ?_
      refine EW_loop (σ := Gh × Nat × Option Addr × Nat × Nat × Seg × List PF) (fun ⟨J, k, a, n, c, S, qs⟩ => [(2, .pointer (some ⟨b2, 0, none⟩)), (3, .pointer (some ⟨b3, 0, none⟩)), (4, .pointer (some ⟨b4, 0, none⟩)), (6, .slice a n c), (25, e.hd.v), (26, .int .i64 (e.hd.n : Int)), (27, .int .i64 (k : Int))]) (fun ⟨J, k, a, n, c, S, qs⟩ => J) (fun ⟨J, k, a, n, c, S, qs⟩ => S :: [(b4, .cells Vr0.v.cells 30)] :: [(b3, .cells e.v.cells 42)] :: [(b2, .cells rb.v.cells 30)] :: L0) (fun ⟨J, k, a, n, c, S, qs⟩ => I0.le J ∧ k ≤ e.hd.n ∧ FOwn pcells 53 J a n c S qs ∧ dropsM (qs.map (·.f)) (e.drop.drop k) = dropsM (baseV r.abs e.abs).fs e.abs.drop ∧ qs.length ≤ rb.ps.length) (fun ⟨J, k, a, n, c, S, qs⟩ => e.hd.n - k) (I1, 0, a1, m1, c1, S1, qs1) ⟨hI1, Nat.zero_le _, ho1, by rw [hq1, ← hbase]; rfl, by have := congrArg List.length hq1; simp at this; omega⟩ (by exact ⟨rfl, rfl, rfl, rfl, rfl, rfl, rfl, trivial⟩) (fun w h => h) ?_
      rintro ⟨J, k, a, n, c, S, qs⟩ ⟨hJ, hk, ho, hd, hql⟩
      have few := ho.few
      have e4 := ho.len
      refine EW_seq ?_
      -- region 7  manifest.go:97
      refine EW_region ?_
      refine EL_s rfl rfl rfl (os_lss rfl rfl) ?_
      refine EL_nil ?_
      refine EQ_then (EQ_wp ?_)
      refine EW_seq ?_
      refine EW_cond rfl (fun h => ?_) (fun h => ?_)
      · try simp only [decide_eq_true_eq, decide_eq_false_iff_not, Bool.not_eq_true', Bool.not_eq_false'] at h
        refine EW_skip ?_
        refine EQ_then (EQ_wp ?_)
        refine EW_seq ?_
        refine EW_block ?_
        refine EW_seq ?_
        obtain ⟨z, hz⟩ := get_some (l := e.drop) (k := k) (by omega)
        -- region 8  manifest.go:97
        refine EW_region ?_
        refine EL_s rfl rfl rfl (os_at (k) rfl rfl (by omega) sl33 (by omega) (he.drop.some (by omega))) ?_
        refine EL_s rfl rfl rfl (os_load_one rfl one23 (he.drop.up.cells (Row.u64 hz) hJ (.refl _))) ?_
        refine EL_a rfl rfl rfl (oa_alloc z23) ?_; intro b8
        refine EL_u rfl rfl (ox_store rfl rfl sz23 rfl (by rfl) (.head .head)) ?_
        refine EL_nil ?_
        refine EQ_then (EQ_wp ?_)
        refine EW_seq ?_
        -- region 9  manifest.go:98
        refine EW_region ?_
        refine EL_s rfl rfl rfl (os_move rfl) ?_
        refine EL_s rfl rfl rfl (os_makeFunc (us := []) (vs := [_]) rfl rfl) ?_
        refine EL_s rfl rfl rfl (os_call (vs := [_, _]) body22 rfl (s_IndexFunc (ps := qs) (ho.frow fun x hx => .inr (own_tail (own_seg hx))) 23 [.pointer (some ⟨b8, 0, none⟩)] body23 (isNum z) (fun p hp => m_cl1 p z (cells_own own_head rfl)))) ?_
        refine EL_s rfl rfl rfl (os_assign rfl) ?_
        refine EL_nil ?_
        refine EQ_then (EQ_wp ?_)
        refine EW_seq ?_
        refine EW_seq ?_
        -- region 10  manifest.go:99
        refine EW_region ?_
        refine EL_s rfl rfl rfl (os_move rfl) ?_
        refine EL_s rfl rfl rfl (os_lss rfl rfl) ?_
        refine EL_nil ?_
        refine EQ_then (EQ_wp ?_)
        refine EW_cond rfl (fun h => ?_) (fun h => ?_)
        · try simp only [decide_eq_true_eq, decide_eq_false_iff_not, Bool.not_eq_true', Bool.not_eq_false'] at h
          have hn := h
          refine EW_seq ?_
          -- region 11  manifest.go:100
          refine EW_region ?_
          refine EL_s rfl rfl rfl (os_struct (cs := [_, _, _]) [] pl30 z30 rfl rfl) ?_
          refine EL_u rfl rfl (ox_store rfl rfl sz30 rfl (by rfl) (.tail (.tail (.head .head)))) ?_
          refine EL_s rfl rfl rfl (os_assign rfl) ?_
          refine EL_nil ?_
          refine EQ_then (EQ_wp ?_)
          refine EW_ret ?_
          refine EQ_then_ret (EQ_block_ret (EQ_then_ret (EQ_then_ret (EQ_block_ret (EQ_then_ret (?_))))))
          exact pc_ret2 Try.results9 (rv_agg (cs := [_, _, _]) rfl agg30 (cells_own (own_tail (own_tail own_head)) rfl)) (rv_tmp rfl) hJ ((((((Incl.refl _).skip _).skip _).skip _).skip _).skip _) ⟨Vr0, 6, rfl, Vr0_ok _ _, .none hR (by rw [← hd]; exact drops_none hz hn)⟩ (.inl rfl)
        · try simp only [decide_eq_true_eq, decide_eq_false_iff_not, Bool.not_eq_true', Bool.not_eq_false'] at h
          obtain ⟨i, hi⟩ : ∃ i : Nat, idxF (isNum z) (qs.map (·.f)) = (i : Int) := ⟨(idxF (isNum z) (qs.map (·.f))).toNat, by omega⟩
          have hil := idx_lt hi (by omega)
          rw [List.length_map] at hil
          rw [hi]
          refine EW_skip ?_
          refine EQ_then (EQ_wp ?_)
          -- region 12  manifest.go:102
          refine EW_region ?_
          refine EL_s rfl rfl rfl (os_move rfl) ?_
          refine EL_s rfl rfl rfl (os_move rfl) ?_
          refine EL_s rfl rfl rfl (os_move rfl) ?_
          refine EL_s rfl rfl rfl (os_add_in rfl rfl (IntWalk.i64_in _ (by omega))) ?_
          refine EL_x rfl rfl (ox_turn (vs := [_, _, _]) body24 rfl (pickS pick0) (s_Delete ho i (by omega))) ?_; rintro J2 L2 v2 hI2 ⟨S2, rfl, a2, n2, c2, rfl, ho2⟩
          refine EL_s rfl rfl rfl (os_assign rfl) ?_
          refine EL_nil ?_
          refine EQ_block_normal ?_
          refine EQ_then (EQ_wp ?_)
          -- region 13  manifest.go:97
          refine EW_region ?_
          refine EL_s rfl rfl rfl (os_add_in rfl rfl (IntWalk.i64_in _ (by omega))) ?_
          refine EL_s rfl rfl rfl (os_move rfl) ?_
          refine EL_nil ?_
          refine EQ_round (J2, k + 1, a2, n2, c2, S2, qs.take i ++ qs.drop (i + 1)) ?_ ?_ ?_ ?_
          · exact ⟨hJ.trans hI2, by omega, ho2, by rw [← hd, drops_step hz hi]; simp, by rw [List.length_append, List.length_take, List.length_drop]; omega⟩
          · first | omega | (dsimp only; omega)
          · exact ⟨rfl, rfl, rfl, rfl, rfl, rfl, rfl, trivial⟩
          · exact fun w h => h.incl ((((Incl.refl _).skip _).cons _))
      · try simp only [decide_eq_true_eq, decide_eq_false_iff_not, Bool.not_eq_true', Bool.not_eq_false'] at h
        refine EW_exit ?_
        refine EQ_then_exit (EQ_then_exit (EQ_block_exit (?_)))
        refine EQ_then (EQ_wp ?_)
        refine EW_seq ?_
        -- region 14  manifest.go:104
        refine EW_region ?_
        refine EL_s rfl rfl rfl (os_field rfl fl30_1) ?_
        refine EL_s rfl rfl rfl (os_load_one rfl one23 (cells_own (own_tail (own_tail (own_tail own_head))) rfl)) ?_
        refine EL_s rfl rfl rfl (os_assign rfl) ?_
        refine EL_nil ?_
        refine EQ_then (EQ_wp ?_)
        refine EW_seq ?_
        refine EW_seq ?_
        -- region 15  manifest.go:105
        refine EW_region ?_
        refine EL_s rfl rfl rfl (os_field rfl fl42_1) ?_
        refine EL_s rfl rfl rfl (os_load_one rfl one28 (cells_own (own_tail (own_tail own_head)) rfl)) ?_
        refine EL_s rfl rfl rfl (os_len rfl sl28) ?_
        refine EL_s rfl rfl rfl (os_move rfl) ?_
        refine EL_nil ?_
        refine EQ_then (EQ_wp ?_)
        refine EW_block ?_
        obtain ⟨l, hl⟩ : ∃ l, l = qs.map (·.f) := ⟨_, rfl⟩
        have hd2 : dropsM (baseV r.abs e.abs).fs e.abs.drop = some l := by rw [← hd, List.drop_eq_nil_of_le (by omega), hl]; rfl
        refine EW_loop (σ := Gh × Nat × Option Addr × Nat × Nat × Seg × List PF × Int) (fun ⟨J, k, a, n, c, S, qs, nx⟩ => [(2, .pointer (some ⟨b2, 0, none⟩)), (3, .pointer (some ⟨b3, 0, none⟩)), (4, .pointer (some ⟨b4, 0, none⟩)), (6, .slice a n c), (10, .int .u64 nx), (46, e.ha.v), (47, .int .i64 (e.ha.n : Int)), (48, .int .i64 (k : Int))]) (fun ⟨J, k, a, n, c, S, qs, nx⟩ => J) (fun ⟨J, k, a, n, c, S, qs, nx⟩ => S :: [(b4, .cells Vr0.v.cells 30)] :: [(b3, .cells e.v.cells 42)] :: [(b2, .cells rb.v.cells 30)] :: L0) (fun ⟨J, k, a, n, c, S, qs, nx⟩ => I0.le J ∧ k ≤ e.ha.n ∧ FOwn pcells 53 J a n c S qs ∧ addsM (qs.map (·.f)) nx (e.abs.add.drop k) = addsM l (baseV r.abs e.abs).nx e.abs.add ∧ qs.length ≤ rb.ps.length + k ∧ 0 ≤ nx ∧ nx ≤ 18446744073709551615) (fun ⟨J, k, a, n, c, S, qs, nx⟩ => e.ha.n - k) (J, 0, a, n, c, S, qs, rb.nx) ⟨hJ, Nat.zero_le _, ho, by rw [← hbase, hl]; rfl, by omega, hb.nx0, hb.nx1⟩ (by exact ⟨rfl, rfl, rfl, rfl, rfl, rfl, rfl, rfl, trivial⟩) (fun w h => h) ?_
        rintro ⟨J, k, a, n, c, S, qs, nx⟩ ⟨hJ, hk, ho, ha, hql, hn0, hn1⟩
        have few := ho.few
        have e4 := ho.len
        refine EW_seq ?_
        -- region 16  manifest.go:105
        refine EW_region ?_
        refine EL_s rfl rfl rfl (os_lss rfl rfl) ?_
        refine EL_nil ?_
        refine EQ_then (EQ_wp ?_)
        refine EW_seq ?_
        refine EW_cond rfl (fun h => ?_) (fun h => ?_)
        · try simp only [decide_eq_true_eq, decide_eq_false_iff_not, Bool.not_eq_true', Bool.not_eq_false'] at h
          refine EW_skip ?_
          refine EQ_then (EQ_wp ?_)
          refine EW_seq ?_
          refine EW_block ?_
          refine EW_seq ?_
          obtain ⟨x, hx⟩ := get_some (l := e.add) (k := k) (by omega)
          have hxf : e.abs.add[k]? = some x.f := by simp [Er.abs, hx]
          have hxo := (he.add.mono hJ (Incl.nil [])).okAt hx
          -- region 17  manifest.go:105
          refine EW_region ?_
          refine EL_s rfl rfl rfl (os_at (k) rfl rfl (by omega) sl28 (by omega) (he.add.row.some (by omega))) ?_
          refine EL_s rfl rfl rfl (os_load_agg (cs := pcells x) rfl agg53 ((he.add.get hx).mono hJ (.nil _))) ?_
          refine EL_a rfl rfl rfl (oa_alloc z53) ?_; intro b12
          refine EL_u rfl rfl (ox_store rfl rfl sz53 rfl (by rfl) (.head .head)) ?_
          refine EL_nil ?_
          refine EQ_then (EQ_wp ?_)
          refine EW_seq ?_
          refine EW_seq ?_
          -- region 18  manifest.go:106
          refine EW_region ?_
          refine EL_s rfl rfl rfl (os_move rfl) ?_
          refine EL_s rfl rfl rfl (os_makeFunc (us := []) (vs := [_]) rfl rfl) ?_
          refine EL_s rfl rfl rfl (os_call (vs := [_, _]) body25 rfl (s_ContainsFunc (ps := qs) (ho.frow fun x hx => .inr (own_tail (own_seg hx))) 26 [.pointer (some ⟨b12, 0, none⟩)] body26 (isNum x.f.num) (fun p hp => m_cl2 p x (cells_own own_head rfl)))) ?_
          refine EL_nil ?_
          refine EQ_then (EQ_wp ?_)
          refine EW_cond rfl (fun h => ?_) (fun h => ?_)
          · try simp only [decide_eq_true_eq, decide_eq_false_iff_not, Bool.not_eq_true', Bool.not_eq_false'] at h
            have hc := h
            refine EW_seq ?_
            -- region 19  manifest.go:107
            refine EW_region ?_
            refine EL_s rfl rfl rfl (os_struct (cs := [_, _, _]) [] pl30 z30 rfl rfl) ?_
            refine EL_u rfl rfl (ox_store rfl rfl sz30 rfl (by rfl) (.tail (.tail (.head .head)))) ?_
            refine EL_s rfl rfl rfl (os_assign rfl) ?_
            refine EL_nil ?_
            refine EQ_then (EQ_wp ?_)
            refine EW_ret ?_
            refine EQ_then_ret (EQ_block_ret (EQ_then_ret (EQ_then_ret (EQ_block_ret (EQ_then_ret (?_))))))
            exact pc_ret2 Try.results9 (rv_agg (cs := [_, _, _]) rfl agg30 (cells_own (own_tail (own_tail own_head)) rfl)) (rv_tmp rfl) hJ ((((((Incl.refl _).skip _).skip _).skip _).skip _).skip _) ⟨Vr0, 7, rfl, Vr0_ok _ _, .there hR hd2 (by rw [← ha]; exact adds_none hxf hc)⟩ (.inl rfl)
          · try simp only [decide_eq_true_eq, decide_eq_false_iff_not, Bool.not_eq_true', Bool.not_eq_false'] at h
            have hc := h
            refine EW_skip ?_
            refine EQ_then (EQ_wp ?_)
            refine EW_seq ?_
            -- region 20  manifest.go:109
            refine EW_region ?_
            refine EL_s rfl rfl rfl (os_move rfl) ?_
            refine EL_s rfl rfl rfl (os_load_agg (cs := pcells x) rfl agg53 (cells_own own_head rfl)) ?_
            refine EL_g rfl rfl rfl (og_call (vs := [_]) body27 rfl (m_twin hxo)) ?_; intro I5 v58 hI5 hv58
            obtain ⟨q, rfl, hq1, hqf⟩ := hv58
            refine EL_a rfl rfl rfl (oa_slice [_] sl28 z53 rfl rfl rfl rfl) ?_; intro b59
            refine EL_y rfl rfl rfl (ox_append rfl rfl sl28 z53 rfl (by decide) ho.row (pickS (pickS pick0)) (src_p q) (fun h => by cases h) (by omega) (by unfold maxLen; omega)) ?_
            rintro L4 v16 ⟨a16, c16, S16, rfl, rfl, ho16, hn16, hc16⟩
            refine EL_s rfl rfl rfl (os_assign rfl) ?_
            refine EL_nil ?_
            refine EQ_then (EQ_wp ?_)
            -- region 21  manifest.go:110
            refine EW_region ?_
            refine EL_s rfl rfl rfl (os_move rfl) ?_
            refine EL_s rfl rfl rfl (os_field rfl fl53_1) ?_
            refine EL_s rfl rfl rfl (os_load_one rfl one23 (cells_own (own_tail (own_tail own_head)) rfl)) ?_
            refine EL_s rfl rfl rfl (os_add rfl rfl) ?_
            refine EL_s rfl rfl rfl (os_max2 rfl rfl) ?_
            refine EL_s rfl rfl rfl (os_assign rfl) ?_
            refine EL_nil ?_
            refine EQ_block_normal ?_
            refine EQ_then (EQ_wp ?_)
            -- region 22  manifest.go:105
            refine EW_region ?_
            refine EL_s rfl rfl rfl (os_add_in rfl rfl (IntWalk.i64_in _ (by omega))) ?_
            refine EL_s rfl rfl rfl (os_move rfl) ?_
            refine EL_nil ?_
            refine EQ_round (I5, k + 1, a16, n + 1, c16, S16, qs ++ [q], nextM nx x.f.num) ?_ ?_ ?_ ?_
            · exact ⟨hJ.trans hI5, by omega, FOwn.snoc ho16 (fun p hp => (ho.ok p hp).mono hI5) hq1 (by omega), by rw [← ha, adds_step hxf hc, List.map_append]; simp [hqf], by rw [List.length_append]; simp; omega, nextM_le ⟨hn0, hn1⟩⟩
            · first | omega | (dsimp only; omega)
            · exact ⟨rfl, rfl, rfl, rfl, rfl, rfl, rfl, rfl, trivial⟩
            · exact fun w h => h.incl (((((Incl.refl _).skip _).skip _).cons _))
        · try simp only [decide_eq_true_eq, decide_eq_false_iff_not, Bool.not_eq_true', Bool.not_eq_false'] at h
          refine EW_exit ?_
          refine EQ_then_exit (EQ_then_exit (EQ_block_exit (?_)))
          refine EQ_then (EQ_wp ?_)
          refine EW_seq ?_
          -- region 23  manifest.go:112
          refine EW_region ?_
          refine EL_s rfl rfl rfl (os_move rfl) ?_
          refine EL_x rfl rfl (ox_turn (vs := [_, _]) body28 rfl pick0 (s_SortStable ho)) ?_; rintro J2 L2 v2 hI2 ⟨S2, rfl, ws, rfl, ho2, hP, hS⟩
          refine EL_nil ?_
          refine EQ_then (EQ_wp ?_)
          refine EW_seq ?_
          refine EW_freeze (S := S2) pick0 fun I9 hI9 hS9 => ?_
          have ha2 : addsM l (baseV r.abs e.abs).nx e.abs.add = some (qs.map (·.f), nx) := by rw [← ha, List.drop_eq_nil_of_le (by have := he.add.len; simp [Er.abs]; omega)]; rfl
          have hw : Vr.Ok pcells I9 ⟨⟨a, n, c⟩, ws, nx, e.sq⟩ := ⟨(ho2.mono hI9).frow fun x hx => .inl (hS9 x hx), hn0, hn1, he.sq0, he.sq1⟩
          have hP2 := hP.map (·.f)
          have hS2 := sorted_map hS
          -- region 24  manifest.go:113
          refine EW_region ?_
          refine EL_s rfl rfl rfl (os_move rfl) ?_
          refine EL_s rfl rfl rfl (os_move rfl) ?_
          refine EL_s rfl rfl rfl (os_field rfl fl42_3) ?_
          refine EL_s rfl rfl rfl (os_load_one rfl one23 (cells_own (own_tail own_head) rfl)) ?_
          refine EL_s rfl rfl rfl (os_struct (cs := [_, _, _]) [(0, _), (1, _), (2, _)] pl30 z30 rfl rfl) ?_
          refine EL_a rfl rfl rfl (oa_alloc z30) ?_; intro b13
          refine EL_u rfl rfl (ox_store rfl rfl sz30 rfl (by rfl) (.head .head)) ?_
          refine EL_nil ?_
          refine EQ_then (EQ_wp ?_)
          refine EW_seq ?_
          refine EW_block ?_
          refine EW_seq ?_
          -- region 25  manifest.go:115
          refine EW_region ?_
          refine EL_s rfl rfl rfl (os_load_agg (cs := [_, _, _]) rfl agg30 (cells_own own_head rfl)) ?_
          refine EL_s rfl rfl rfl (os_call (vs := [_]) body7 rfl (m_Right (r := ⟨⟨a, n, c⟩, ws, nx, e.sq⟩) hw)) ?_
          refine EL_s rfl rfl rfl (os_not rfl) ?_
          refine EL_s rfl rfl rfl (os_assign rfl) ?_
          refine EL_nil ?_
          refine EQ_then (EQ_wp ?_)
          refine EW_cond rfl (fun h => ?_) (fun h => ?_)
          · try simp only [decide_eq_true_eq, decide_eq_false_iff_not, Bool.not_eq_true', Bool.not_eq_false'] at h
            have hR2 := h
            refine EW_seq ?_
            -- region 26  manifest.go:116
            refine EW_region ?_
            refine EL_s rfl rfl rfl (os_struct (cs := [_, _, _]) [] pl30 z30 rfl rfl) ?_
            refine EL_u rfl rfl (ox_store rfl rfl sz30 rfl (by rfl) (.tail (.head .head))) ?_
            refine EL_s rfl rfl rfl (os_assign rfl) ?_
            refine EL_nil ?_
            refine EQ_then (EQ_wp ?_)
            refine EW_ret ?_
            refine EQ_block_ret (EQ_then_ret (?_))
            exact pc_ret2 Try.results9 (rv_agg (cs := [_, _, _]) rfl agg30 (cells_own (own_tail own_head) rfl)) (rv_tmp rfl) (hJ.trans (hI2.trans hI9)) (((((Incl.refl _).skip _).skip _).skip _).skip _) ⟨Vr0, 3, rfl, Vr0_ok _ _, .bad hR hd2 ha2 hP2 hS2 hR2⟩ (.inl rfl)
          · try simp only [decide_eq_true_eq, decide_eq_false_iff_not, Bool.not_eq_true', Bool.not_eq_false'] at h
            have hR2 := h
            refine EW_seq ?_
            -- region 27  manifest.go:117
            refine EW_region ?_
            refine EL_s rfl rfl rfl (os_field rfl fl42_3) ?_
            refine EL_s rfl rfl rfl (os_load_one rfl one23 (cells_own (own_tail (own_tail own_head)) rfl)) ?_
            refine EL_s rfl rfl rfl (os_field rfl fl30_2) ?_
            refine EL_s rfl rfl rfl (os_load_one rfl one23 (cells_own (own_tail (own_tail (own_tail own_head))) rfl)) ?_
            refine EL_s rfl rfl rfl (os_lss rfl rfl) ?_
            refine EL_s rfl rfl rfl (os_assign rfl) ?_
            refine EL_nil ?_
            refine EQ_then (EQ_wp ?_)
            refine EW_cond rfl (fun h => ?_) (fun h => ?_)
            · try simp only [decide_eq_true_eq, decide_eq_false_iff_not, Bool.not_eq_true', Bool.not_eq_false'] at h
              have hs := h
              refine EW_seq ?_
              -- region 28  manifest.go:118
              refine EW_region ?_
              refine EL_s rfl rfl rfl (os_struct (cs := [_, _, _]) [] pl30 z30 rfl rfl) ?_
              refine EL_u rfl rfl (ox_store rfl rfl sz30 rfl (by rfl) (.tail (.head .head))) ?_
              refine EL_s rfl rfl rfl (os_assign rfl) ?_
              refine EL_nil ?_
              refine EQ_then (EQ_wp ?_)
              refine EW_ret ?_
              refine EQ_block_ret (EQ_then_ret (?_))
              exact pc_ret2 Try.results9 (rv_agg (cs := [_, _, _]) rfl agg30 (cells_own (own_tail own_head) rfl)) (rv_tmp rfl) (hJ.trans (hI2.trans hI9)) (((((Incl.refl _).skip _).skip _).skip _).skip _) ⟨Vr0, 13, rfl, Vr0_ok _ _, .old hR hd2 ha2 hP2 hS2 hR2 (by rw [← hbase]; exact hs)⟩ (.inl rfl)
            · try simp only [decide_eq_true_eq, decide_eq_false_iff_not, Bool.not_eq_true', Bool.not_eq_false'] at h
              have hs := h
              refine EW_skip ?_
              refine EQ_block_normal ?_
              refine EQ_then (EQ_wp ?_)
              refine EW_seq ?_
              -- region 29  manifest.go:120
              refine EW_region ?_
              refine EL_s rfl rfl rfl (os_load_agg (cs := [_, _, _]) rfl agg30 (cells_own own_head rfl)) ?_
              refine EL_u rfl rfl (ox_store rfl rfl sz30 rfl (by rfl) (.tail (.head .head))) ?_
              refine EL_s rfl rfl rfl (os_assign rfl) ?_
              refine EL_nil ?_
              refine EQ_then (EQ_wp ?_)
              refine EW_ret ?_
              exact pc_ret2 Try.results9 (rv_agg (cs := [_, _, _]) rfl agg30 (cells_own (own_tail own_head) rfl)) (rv_tmp rfl) (hJ.trans (hI2.trans hI9)) (((((Incl.refl _).skip _).skip _).skip _).skip _) ⟨⟨⟨a, n, c⟩, ws, nx, e.sq⟩, 0, rfl, hw, .ok hR hd2 ha2 hP2 hS2 hR2 (by rw [← hbase]; exact hs)⟩ (.inl rfl)


end Go.Proofs.Ytodkbhbbdnjlcaa
