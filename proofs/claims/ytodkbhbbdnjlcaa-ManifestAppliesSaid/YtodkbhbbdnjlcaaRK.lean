/- Proved here: the part RK of the proof that the law of this seat returns true for every input; no condition. -/
import Derived.Test.YtodkbhbbdnjlcaaRJ
set_option maxRecDepth 20000
set_option linter.unusedVariables false
set_option linter.unusedSimpArgs false
namespace Go.Proofs.Ytodkbhbbdnjlcaa
open Go Go.Gl

theorem r_Apply {I : Gh} {L : List Seg} {r : Vr} (hr : r.Ok rcells I) {e : Er} (he : e.Ok rcells I) (hfew : r.ps.length + e.add.length ≤ 1000) : PC Try.prog 11 #[r.v, e.v] I L fun K v => ∃ (w : Vr) (code : Int), v = .tuple #[w.v, .int .i64 code] ∧ w.Ok rcells K ∧ ApplyR r.abs e.abs w.abs code := by
  refine PC.of (n := 184) Try.func11 rfl Try.ntmps11 rfl fun I0 L0 hI0 hL0 => ?_
  have hr := hr.mono hI0
  have he := he.mono hI0
  have e1 := hr.row.len
  have few := hr.row.few
  have e2 := he.add.len
  have e3 := he.drop.len
  have few2 := he.few
  simp only [u64s, List.length_map] at e3
  refine EW_seq ?_
  -- region 0  ref.go:58
  refine EW_region ?_
  refine EL_a rfl rfl rfl (oa_box rfl) ?_; intro b2
  refine EL_a rfl rfl rfl (oa_box rfl) ?_; intro b3
  refine EL_a rfl rfl rfl (oa_alloc z25) ?_; intro b4
  refine EL_s rfl rfl rfl (os_assign rfl) ?_
  refine EL_nil ?_
  refine EQ_then (EQ_wp ?_)
  refine EW_seq ?_
  refine EW_seq ?_
  -- region 1  ref.go:59
  refine EW_region ?_
  refine EL_s rfl rfl rfl (os_load_agg (cs := [_, _, _]) rfl agg25 (cells_own (own_tail (own_tail own_head)) rfl)) ?_
  refine EL_s rfl rfl rfl (os_call (vs := [_]) body8 rfl (r_Right hr)) ?_
  refine EL_s rfl rfl rfl (os_not rfl) ?_
  refine EL_nil ?_
  refine EQ_then (EQ_wp ?_)
  refine EW_cond rfl (fun h => ?_) (fun h => ?_)
  · try simp only [decide_eq_true_eq, decide_eq_false_iff_not, Bool.not_eq_true', Bool.not_eq_false'] at h
    have hR := h
    refine EW_seq ?_
    -- region 2  ref.go:60
    refine EW_region ?_
    refine EL_s rfl rfl rfl (os_struct (cs := [_, _, _]) [] pl25 z25 rfl rfl) ?_
    refine EL_u rfl rfl (ox_store rfl rfl sz25 rfl (by rfl) (.head .head)) ?_
    refine EL_s rfl rfl rfl (os_assign rfl) ?_
    refine EL_nil ?_
    refine EQ_then (EQ_wp ?_)
    refine EW_ret ?_
    refine EQ_then_ret (?_)
    exact pc_ret2 Try.results11 (rv_agg (cs := [_, _, _]) rfl agg25 (cells_own own_head rfl)) (rv_tmp rfl) (.refl _) ((((Incl.refl _).skip _).skip _).skip _) ⟨Vr0, 3, rfl, Vr0_ok _ _, .form hR⟩ (.inl rfl)
  · try simp only [decide_eq_true_eq, decide_eq_false_iff_not, Bool.not_eq_true', Bool.not_eq_false'] at h
    have hR := h
    refine EW_skip ?_
    refine EQ_then (EQ_wp ?_)
    refine EW_seq_cut (σ := Vr) (fun rb => [(2, .pointer (some ⟨b2, 0, none⟩)), (3, .pointer (some ⟨b3, 0, none⟩)), (4, .pointer (some ⟨b4, 0, none⟩))]) (fun rb => I0) (fun rb => [(b4, .cells Vr0.v.cells 25)] :: [(b3, .cells e.v.cells 35)] :: [(b2, .cells rb.v.cells 25)] :: L0) (fun rb => rb.Ok rcells I0 ∧ rb.abs = baseV r.abs e.abs ∧ rb.ps.length ≤ r.ps.length) ?_ ?_
    · skip
      refine EW_seq ?_
      -- region 3  ref.go:62
      refine EW_region ?_
      refine EL_s rfl rfl rfl (os_field rfl fl35_0) ?_
      refine EL_s rfl rfl rfl (os_load_one rfl one4 (cells_own (own_tail own_head) rfl)) ?_
      refine EL_nil ?_
      refine EQ_then (EQ_wp ?_)
      refine EW_cond rfl (fun h => ?_) (fun h => ?_)
      · try simp only [decide_eq_true_eq, decide_eq_false_iff_not, Bool.not_eq_true', Bool.not_eq_false'] at h
        -- region 4  ref.go:63
        refine EW_region ?_
        refine EL_s rfl rfl rfl (os_struct (cs := [_, _, _]) [] pl25 z25 rfl rfl) ?_
        refine EL_u rfl rfl (ox_store rfl rfl sz25 rfl (by rfl) (.tail (.tail (.head .head)))) ?_
        refine EL_nil ?_
        refine EQ_cut Vr0 ?_ ?_ ?_
        · exact ⟨Vr0_ok _ _, by rw [baseV, if_pos (by assumption)]; rfl, Nat.zero_le _⟩
        · exact ⟨rfl, rfl, rfl, trivial⟩
        · exact fun w h => h
      · try simp only [decide_eq_true_eq, decide_eq_false_iff_not, Bool.not_eq_true', Bool.not_eq_false'] at h
        refine EW_skip ?_
        refine EQ_cut r ?_ ?_ ?_
        · exact ⟨hr, by rw [baseV, if_neg (by simpa [Er.abs] using h)], Nat.le_refl _⟩
        · exact ⟨rfl, rfl, rfl, trivial⟩
        · exact fun w h => h
    · rintro rb ⟨hb, hbase, hbl⟩
      have e5 := hb.row.len
      have few5 := hb.row.few
      refine EW_seq ?_
      -- region 5  ref.go:65
      refine EW_region ?_
      refine EL_a rfl rfl rfl (oa_slice [] sl22 z55 rfl rfl rfl rfl) ?_; intro b23
      refine EL_s rfl rfl rfl (os_field rfl fl25_0) ?_
      refine EL_s rfl rfl rfl (os_load_one rfl one22 (cells_own (own_tail (own_tail (own_tail own_head))) rfl)) ?_
      refine EL_y rfl rfl rfl (ox_append rfl rfl sl22 z55 rfl (by decide) (OwnRow.lit (xs := []) rfl (fun x hx => by cases hx) rfl (by decide)) pick0 ((hb.row.row.up).src (by decide) (flat_one rcells_one rb.ps)) hb.row.row.nil (by omega) (by unfold maxLen; omega)) ?_
      rintro L4 v26 ⟨a1, c1, S1, rfl, rfl, ho1, hn1, hc1⟩
      refine EL_s rfl rfl rfl (os_assign rfl) ?_
      refine EL_nil ?_
      refine EQ_then (EQ_wp ?_)
      refine EW_seq ?_
      -- region 6  ref.go:66
      refine EW_region ?_
      refine EL_s rfl rfl rfl (os_assign rfl) ?_
      refine EL_nil ?_
      refine EQ_then (EQ_wp ?_)
      refine EW_seq ?_
      refine EW_seq ?_
      -- region 7  ref.go:67
      refine EW_region ?_
      refine EL_s rfl rfl rfl (os_assign rfl) ?_
      refine EL_nil ?_
      refine EQ_then (EQ_wp ?_)
      refine EW_block ?_
      refine EW_loop (σ := Nat × Bool × Option Addr × Nat × Nat × Seg × List PF) (fun ⟨k, bN, a, n, c, S, qs⟩ => [(2, .pointer (some ⟨b2, 0, none⟩)), (3, .pointer (some ⟨b3, 0, none⟩)), (4, .pointer (some ⟨b4, 0, none⟩)), (6, .slice a n c), (7, .bool bN), (8, .int .i64 (k : Int))]) (fun ⟨k, bN, a, n, c, S, qs⟩ => I0) (fun ⟨k, bN, a, n, c, S, qs⟩ => S :: [(b4, .cells Vr0.v.cells 25)] :: [(b3, .cells e.v.cells 35)] :: [(b2, .cells rb.v.cells 25)] :: L0) (fun ⟨k, bN, a, n, c, S, qs⟩ => k ≤ e.hd.n ∧ FOwn rcells 55 I0 a n c S qs ∧ dropsR (qs.map (·.f)) bN (e.abs.drop.drop k) = dropsR (baseV r.abs e.abs).fs false e.abs.drop ∧ qs.length ≤ rb.ps.length) (fun ⟨k, bN, a, n, c, S, qs⟩ => e.hd.n - k) (0, false, a1, 0 + rb.h.n, c1, S1, rb.ps) ⟨Nat.zero_le _, FOwn.app ho1 rfl hb.row.ok hb.row.few, by rw [← hbase]; rfl, Nat.le_refl _⟩ (by exact ⟨rfl, rfl, rfl, rfl, rfl, rfl, trivial⟩) (fun w h => h) ?_
      rintro ⟨k, bN, a, n, c, S, qs⟩ ⟨hk, ho, hd, hql⟩
      have few := ho.few
      have e4 := ho.len
      have hle := ho.row.le
      have hmx := hle.2
      have hmc := hle.1
      unfold maxLen at hmx
      refine EW_seq ?_
      refine EW_seq ?_
      -- region 8  ref.go:67
      refine EW_region ?_
      refine EL_s rfl rfl rfl (os_move rfl) ?_
      refine EL_s rfl rfl rfl (os_field rfl fl35_2) ?_
      refine EL_s rfl rfl rfl (os_load_one rfl one33 (cells_own (own_tail (own_tail own_head)) rfl)) ?_
      refine EL_s rfl rfl rfl (os_len rfl sl33) ?_
      refine EL_s rfl rfl rfl (os_lss rfl rfl) ?_
      refine EL_nil ?_
      refine EQ_then (EQ_wp ?_)
      refine EW_cond rfl (fun h => ?_) (fun h => ?_)
      · try simp only [decide_eq_true_eq, decide_eq_false_iff_not, Bool.not_eq_true', Bool.not_eq_false'] at h
        refine EW_skip ?_
        refine EQ_then (EQ_wp ?_)
        refine EW_seq ?_
        refine EW_block ?_
        refine EW_seq ?_
        obtain ⟨z, hz⟩ := get_some (l := e.abs.drop) (k := k) (by simp only [Er.abs]; omega)
        -- region 10  ref.go:68
        refine EW_region ?_
        refine EL_s rfl rfl rfl (os_assign rfl) ?_
        refine EL_nil ?_
        refine EQ_then (EQ_wp ?_)
        refine EW_seq_cut (σ := Nat) (fun j => [(2, .pointer (some ⟨b2, 0, none⟩)), (3, .pointer (some ⟨b3, 0, none⟩)), (4, .pointer (some ⟨b4, 0, none⟩)), (6, .slice a n c), (7, .bool bN), (8, .int .i64 (k : Int)), (9, .int .i64 (j : Int))]) (fun j => I0) (fun j => S :: [(b4, .cells Vr0.v.cells 25)] :: [(b3, .cells e.v.cells 35)] :: [(b2, .cells rb.v.cells 25)] :: L0) (fun j => j ≤ n ∧ (qs.take j).all (fun p => !isNum z p.f) = true ∧ (j = n ∨ ∃ x, qs[j]? = some x ∧ x.f.num = z)) ?_ ?_
        · skip
          refine EW_block ?_
          refine EW_loop (σ := Nat) (fun j => [(2, .pointer (some ⟨b2, 0, none⟩)), (3, .pointer (some ⟨b3, 0, none⟩)), (4, .pointer (some ⟨b4, 0, none⟩)), (6, .slice a n c), (7, .bool bN), (8, .int .i64 (k : Int)), (9, .int .i64 (j : Int))]) (fun j => I0) (fun j => S :: [(b4, .cells Vr0.v.cells 25)] :: [(b3, .cells e.v.cells 35)] :: [(b2, .cells rb.v.cells 25)] :: L0) (fun j => j ≤ n ∧ (qs.take j).all (fun p => !isNum z p.f) = true) (fun j => n - j) 0 ⟨Nat.zero_le _, rfl⟩ (by exact ⟨rfl, rfl, rfl, rfl, rfl, rfl, rfl, trivial⟩) (fun w h => h) ?_
          rintro j ⟨hj, hj2⟩
          refine EW_seq ?_
          refine EW_seq ?_
          -- region 11 DRAWN  ref.go:69
          refine EW_draw [] [.s, .s, .s, .s, .s, .s, .s, .s, .s, .s, .s, .s, .s, .s, .s, .s, .s] [0, 1, 2, 3, 4, 5, 6, 7, 8, 9, 10, 11, 12, 13, 14, 15, 16] mixed (by kernel_rfl) (by kernel_rfl) rfl ?_
          refine EP_s rfl rfl rfl rfl rfl (by exact (os_move rfl)) ?_
          refine EP_s rfl rfl rfl rfl rfl (by exact (os_move rfl)) ?_
          refine EP_s rfl rfl rfl rfl rfl (by exact (os_len rfl sl22)) ?_
          refine EP_s rfl rfl rfl rfl rfl (by exact (os_lss rfl rfl)) ?_
          refine EP_s rfl rfl rfl rfl rfl (by exact (os_move rfl)) ?_
          refine EP_split (t := 38) rfl (fun h => ?_) (fun h => ?_)
          · try simp only [decide_eq_true_eq, decide_eq_false_iff_not, Bool.not_eq_true', Bool.not_eq_false'] at h
            refine EP_s_yes rfl rfl rfl rfl rfl rfl rfl (by exact (os_move rfl)) ?_
            refine EP_s_yes rfl rfl rfl rfl rfl rfl rfl (by exact (os_move rfl)) ?_
            obtain ⟨x, hx⟩ := get_some (l := qs) (k := j) (by omega)
            refine EP_s_yes rfl rfl rfl rfl rfl rfl rfl (by exact (os_at (j) rfl rfl (by omega) sl22 (by omega) ((ho.row' (L := L0)).some (by omega)))) ?_
            refine EP_s_yes rfl rfl rfl rfl rfl rfl rfl (by exact (os_fieldA rfl (ho.row.spot _) fl55_0)) ?_
            refine EP_s_yes rfl rfl rfl rfl rfl rfl rfl (by exact (os_load_one rfl one23 ((ho.get hx).at 0 rfl))) ?_
            refine EP_s_yes rfl rfl rfl rfl rfl rfl rfl (by exact (os_field rfl fl35_2)) ?_
            refine EP_s_yes rfl rfl rfl rfl rfl rfl rfl (by exact (os_load_one rfl one33 (cells_own (own_tail (own_tail own_head)) rfl))) ?_
            refine EP_s_yes rfl rfl rfl rfl rfl rfl rfl (by exact (os_move rfl)) ?_
            refine EP_s_yes rfl rfl rfl rfl rfl rfl rfl (by exact (os_at (k) rfl rfl (by omega) sl33 (by omega) (he.drop.some (by omega)))) ?_
            refine EP_s_yes rfl rfl rfl rfl rfl rfl rfl (by exact (os_load_one rfl one23 (he.drop.up.cells (Row.u64 hz) (.refl _) (.refl _)))) ?_
            refine EP_s_yes rfl rfl rfl rfl rfl rfl rfl (by exact (os_neq rfl rfl)) ?_
            refine EP_s rfl rfl rfl rfl rfl (by exact (os_pick_t rfl rfl)) ?_
            refine EP_nil ?_
            refine EQ_then (EQ_wp ?_)
            refine EW_cond rfl (fun h => ?_) (fun h => ?_)
            · try simp only [decide_eq_true_eq, decide_eq_false_iff_not, Bool.not_eq_true', Bool.not_eq_false'] at h
              have hne := h
              refine EW_skip ?_
              refine EQ_then (EQ_wp ?_)
              refine EW_block ?_
              -- region 12  ref.go:70
              refine EW_region ?_
              refine EL_s rfl rfl rfl (os_move rfl) ?_
              refine EL_s rfl rfl rfl (os_add_in rfl rfl (IntWalk.i64_in _ (by omega))) ?_
              refine EL_s rfl rfl rfl (os_assign rfl) ?_
              refine EL_nil ?_
              refine EQ_block_normal ?_
              refine EQ_round (j + 1) ?_ ?_ ?_ ?_
              · exact ⟨by omega, all_snoc hj2 hx (by simp [isNum]; omega)⟩
              · first | omega | (dsimp only; omega)
              · exact ⟨rfl, rfl, rfl, rfl, rfl, rfl, rfl, trivial⟩
              · exact fun w h => h
            · try simp only [decide_eq_true_eq, decide_eq_false_iff_not, Bool.not_eq_true', Bool.not_eq_false'] at h
              have heq := h
              refine EW_exit ?_
              refine EQ_then_exit (EQ_then_exit (EQ_block_exit (?_)))
              refine EQ_cut j ?_ ?_ ?_
              · exact ⟨hj, hj2, .inr ⟨x, hx, heq⟩⟩
              · exact ⟨rfl, rfl, rfl, rfl, rfl, rfl, rfl, trivial⟩
              · exact fun w h => h
          · try simp only [decide_eq_true_eq, decide_eq_false_iff_not, Bool.not_eq_true', Bool.not_eq_false'] at h
            refine EP_no rfl rfl rfl rfl rfl rfl rfl ?_
            refine EP_no rfl rfl rfl rfl rfl rfl rfl ?_
            refine EP_no rfl rfl rfl rfl rfl rfl rfl ?_
            refine EP_no rfl rfl rfl rfl rfl rfl rfl ?_
            refine EP_no rfl rfl rfl rfl rfl rfl rfl ?_
            refine EP_no rfl rfl rfl rfl rfl rfl rfl ?_
            refine EP_no rfl rfl rfl rfl rfl rfl rfl ?_
            refine EP_no rfl rfl rfl rfl rfl rfl rfl ?_
            refine EP_no rfl rfl rfl rfl rfl rfl rfl ?_
            refine EP_no rfl rfl rfl rfl rfl rfl rfl ?_
            refine EP_no rfl rfl rfl rfl rfl rfl rfl ?_
            refine EP_s rfl rfl rfl rfl rfl (by exact (os_pick_f rfl rfl)) ?_
            refine EP_nil ?_
            refine EQ_then (EQ_wp ?_)
            refine EW_false rfl ?_
            refine EW_exit ?_
            refine EQ_then_exit (EQ_then_exit (EQ_block_exit (?_)))
            refine EQ_cut j ?_ ?_ ?_
            · exact ⟨hj, hj2, .inl (by omega)⟩
            · exact ⟨rfl, rfl, rfl, rfl, rfl, rfl, rfl, trivial⟩
            · exact fun w h => h
        · rintro j ⟨hj, hj2, hj3⟩
          refine EW_seq ?_
          -- region 13  ref.go:72
          refine EW_region ?_
          refine EL_s rfl rfl rfl (os_move rfl) ?_
          refine EL_s rfl rfl rfl (os_move rfl) ?_
          refine EL_s rfl rfl rfl (os_len rfl sl22) ?_
          refine EL_s rfl rfl rfl (os_eql rfl rfl) ?_
          refine EL_nil ?_
          refine EQ_then (EQ_wp ?_)
          refine EW_cond rfl (fun h => ?_) (fun h => ?_)
          · try simp only [decide_eq_true_eq, decide_eq_false_iff_not, Bool.not_eq_true', Bool.not_eq_false'] at h
            have hi : idxF (isNum z) (qs.map (·.f)) < 0 := by rw [idx_none (by rw [List.take_of_length_le (by omega)] at hj2; exact hj2)]; decide
            -- region 14  ref.go:73
            refine EW_region ?_
            refine EL_s rfl rfl rfl (os_assign rfl) ?_
            refine EL_nil ?_
            refine EQ_block_normal ?_
            refine EQ_then (EQ_wp ?_)
            -- region 9  ref.go:67
            refine EW_region ?_
            refine EL_s rfl rfl rfl (os_move rfl) ?_
            refine EL_s rfl rfl rfl (os_add_in rfl rfl (IntWalk.i64_in _ (by omega))) ?_
            refine EL_s rfl rfl rfl (os_assign rfl) ?_
            refine EL_nil ?_
            refine EQ_round (k + 1, true, a, n, c, S, qs) ?_ ?_ ?_ ?_
            · exact ⟨by omega, ho, by rw [← hd, dropsR_none hz hi], hql⟩
            · first | omega | (dsimp only; omega)
            · exact ⟨rfl, rfl, rfl, rfl, rfl, rfl, trivial⟩
            · exact fun w h => h
          · try simp only [decide_eq_true_eq, decide_eq_false_iff_not, Bool.not_eq_true', Bool.not_eq_false'] at h
            obtain ⟨x, hx, hxz⟩ := hj3.resolve_left (by omega)
            have hi := idx_at hj2 hx (by simp [isNum, hxz])
            have hjn := (List.getElem?_eq_some_iff.1 hx).1
            -- region 15 DRAWN  ref.go:75
            refine EW_draw ([]) [.a, .s, .s, .s, .y, .r, .r, .r, .r, .x, .s] [1, 2, 3, 5, 6, 7, 8, 0, 4, 9, 10] mixed (by kernel_rfl) (by kernel_rfl) rfl ?_
            refine EP_s rfl rfl rfl rfl rfl (by exact (os_move rfl)) ?_
            refine EP_s rfl rfl rfl rfl rfl (by exact (os_move rfl)) ?_
            refine EP_s rfl rfl rfl rfl rfl (by exact (os_slice_to j rfl rfl rfl sl22 (by omega))) ?_
            refine EP_r rfl rfl rfl rfl rfl (Incl.nil _) (by exact (os_move rfl)) ?_
            refine EP_r rfl rfl rfl rfl rfl (Incl.nil _) (by exact (os_move rfl)) ?_
            refine EP_r rfl rfl rfl rfl rfl (Incl.nil _) (by exact (os_add_in rfl rfl (IntWalk.i64_in _ (by omega)))) ?_
            refine EP_r rfl rfl rfl rfl rfl (Incl.nil _) (by exact (os_sub_slice (k := .i64) (k' := .i64) (j + 1) n rfl sl22 ⟨_, rfl, by omega⟩ rfl (by omega) (by omega))) ?_
            refine EP_a rfl rfl rfl rfl rfl (by exact (oa_slice [] sl22 z55 rfl rfl rfl rfl)) ?_
            intro b57
            refine EP_k rfl rfl rfl rfl rfl (by exact (ox_append rfl rfl sl22 z55 rfl (by decide) (OwnRow.lit (xs := []) rfl (fun x hx => by cases hx) rfl (by decide)) pick0 ((ho.row.take j (by omega)).src (fun x hx => .inr (own_tail (own_seg hx))) (by decide) (fun x hx => flat_one rcells_one (qs.take j) x (by rw [List.map_take]; exact hx))) ho.row.nil (by omega) (by unfold maxLen; omega))) (fun _ _ _ => Incl.nil _) ?_
            rintro L4 v4 ⟨a4, c4, S4, rfl, rfl, ho4, hn4, hc4⟩
            refine EP_y rfl rfl rfl rfl rfl (by exact (ox_append rfl rfl sl22 z55 rfl (by decide) ho4 pick0 (((ho.row.row (fun x hx => .inr (own_tail (own_seg hx)))).sub (by decide) (by omega : j + 1 ≤ n) (Nat.le_refl n)).src (by decide) (fun x hx => flat_one rcells_one qs x (mem_flat_extract hx))) ((ho.row' (L := L0)).sub (by decide) (by omega : j + 1 ≤ n) (Nat.le_refl n)).nil (by omega) (by unfold maxLen; omega))) ?_
            rintro L5 v5 ⟨a5, c5, S5, rfl, rfl, ho5, hn5, hc5⟩
            refine EP_s rfl rfl rfl rfl rfl (by exact (os_assign rfl)) ?_
            refine EP_nil ?_
            refine EQ_block_normal ?_
            refine EQ_then (EQ_wp ?_)
            -- region 9  ref.go:67
            refine EW_region ?_
            refine EL_s rfl rfl rfl (os_move rfl) ?_
            refine EL_s rfl rfl rfl (os_add_in rfl rfl (IntWalk.i64_in _ (by omega))) ?_
            refine EL_s rfl rfl rfl (os_assign rfl) ?_
            refine EL_nil ?_
            refine EQ_round (k + 1, bN, a5, 0 + j + (n - (j + 1)), c5, S5, qs.take j ++ qs.drop (j + 1)) ?_ ?_ ?_ ?_
            · exact ⟨by omega, FOwn.app ho5 (by rw [ext_map qs (j + 1) e4.symm]; simp [List.map_take, List.map_drop]) (fun p hp => ho.ok p ((List.mem_append.1 hp).elim List.mem_of_mem_take List.mem_of_mem_drop)) (by rw [List.length_append, List.length_take, List.length_drop]; omega), by rw [← hd, dropsR_some hz hi]; simp, by rw [List.length_append, List.length_take, List.length_drop]; omega⟩
            · first | omega | (dsimp only; omega)
            · exact ⟨rfl, rfl, rfl, rfl, rfl, rfl, trivial⟩
            · exact fun w h => h.incl (((Incl.refl _).skip _).cons _)
      · try simp only [decide_eq_true_eq, decide_eq_false_iff_not, Bool.not_eq_true', Bool.not_eq_false'] at h
        refine EW_exit ?_
        refine EQ_then_exit (EQ_then_exit (EQ_block_exit (?_)))
        refine EQ_then (EQ_wp ?_)
        refine EW_seq ?_
        -- region 16  ref.go:78
        refine EW_region ?_
        refine EL_s rfl rfl rfl (os_field rfl fl25_1) ?_
        refine EL_s rfl rfl rfl (os_load_one rfl one23 (cells_own (own_tail (own_tail (own_tail own_head))) rfl)) ?_
        refine EL_s rfl rfl rfl (os_field rfl fl35_3) ?_
        refine EL_s rfl rfl rfl (os_load_one rfl one23 (cells_own (own_tail (own_tail own_head)) rfl)) ?_
        refine EL_s rfl rfl rfl (os_struct (cs := [_, _, _]) [(1, _), (2, _)] pl25 z25 rfl rfl) ?_
        refine EL_a rfl rfl rfl (oa_alloc z25) ?_; intro b10
        refine EL_u rfl rfl (ox_store rfl rfl sz25 rfl (by rfl) (.head .head)) ?_
        refine EL_nil ?_
        refine EQ_then (EQ_wp ?_)
        refine EW_seq ?_
        -- region 17  ref.go:79
        refine EW_region ?_
        refine EL_s rfl rfl rfl (os_assign rfl) ?_
        refine EL_nil ?_
        refine EQ_then (EQ_wp ?_)
        refine EW_seq ?_
        refine EW_seq ?_
        -- region 18  ref.go:80
        refine EW_region ?_
        refine EL_s rfl rfl rfl (os_assign rfl) ?_
        refine EL_nil ?_
        refine EQ_then (EQ_wp ?_)
        refine EW_block ?_
        obtain ⟨l, hl⟩ : ∃ l, l = qs.map (·.f) := ⟨_, rfl⟩
        have hd2 : dropsR (baseV r.abs e.abs).fs false e.abs.drop = (l, bN) := by rw [← hd, List.drop_eq_nil_of_le (by simp only [Er.abs]; omega), hl]; rfl
        refine EW_loop (σ := Nat × Bool × Option Addr × Nat × Nat × Seg × List PF × Int) (fun ⟨k, th, a, n, c, S, qs, nx⟩ => [(2, .pointer (some ⟨b2, 0, none⟩)), (3, .pointer (some ⟨b3, 0, none⟩)), (4, .pointer (some ⟨b4, 0, none⟩)), (6, .slice a n c), (7, .bool bN), (10, .pointer (some ⟨b10, 0, none⟩)), (11, .bool th), (12, .int .i64 (k : Int))]) (fun ⟨k, th, a, n, c, S, qs, nx⟩ => I0) (fun ⟨k, th, a, n, c, S, qs, nx⟩ => S :: [(b10, .cells #[.slice none 0 0, .int .u64 nx, .int .u64 e.sq] 25)] :: [(b4, .cells Vr0.v.cells 25)] :: [(b3, .cells e.v.cells 35)] :: [(b2, .cells rb.v.cells 25)] :: L0) (fun ⟨k, th, a, n, c, S, qs, nx⟩ => k ≤ e.ha.n ∧ FOwn rcells 55 I0 a n c S qs ∧ addsR (qs.map (·.f)) th nx (e.abs.add.drop k) = addsR l false (baseV r.abs e.abs).nx e.abs.add ∧ qs.length ≤ rb.ps.length + k ∧ 0 ≤ nx ∧ nx ≤ 18446744073709551615) (fun ⟨k, th, a, n, c, S, qs, nx⟩ => e.ha.n - k) (0, false, a, n, c, S, qs, rb.nx) ⟨Nat.zero_le _, ho, by rw [← hbase, hl]; rfl, by omega, hb.nx0, hb.nx1⟩ (by exact ⟨rfl, rfl, rfl, rfl, rfl, rfl, rfl, rfl, trivial⟩) (fun w h => h.perm (List.Perm.swap _ _ _)) ?_
        rintro ⟨k, th, a, n, c, S, qs, nx⟩ ⟨hk, ho, ha, hql, hn0, hn1⟩
        have few := ho.few
        have e4 := ho.len
        have hle := ho.row.le
        have hmx := hle.2
        have hmc := hle.1
        unfold maxLen at hmx
        refine EW_seq ?_
        refine EW_seq ?_
        -- region 19  ref.go:80
        refine EW_region ?_
        refine EL_s rfl rfl rfl (os_move rfl) ?_
        refine EL_s rfl rfl rfl (os_field rfl fl35_1) ?_
        refine EL_s rfl rfl rfl (os_load_one rfl one22 (cells_own (own_tail (own_tail (own_tail own_head))) rfl)) ?_
        refine EL_s rfl rfl rfl (os_len rfl sl22) ?_
        refine EL_s rfl rfl rfl (os_lss rfl rfl) ?_
        refine EL_nil ?_
        refine EQ_then (EQ_wp ?_)
        refine EW_cond rfl (fun h => ?_) (fun h => ?_)
        · try simp only [decide_eq_true_eq, decide_eq_false_iff_not, Bool.not_eq_true', Bool.not_eq_false'] at h
          refine EW_skip ?_
          refine EQ_then (EQ_wp ?_)
          refine EW_seq ?_
          refine EW_block ?_
          refine EW_seq ?_
          refine EW_seq ?_
          obtain ⟨x, hx⟩ := get_some (l := e.add) (k := k) (by omega)
          have hxf : e.abs.add[k]? = some x.f := by simp [Er.abs, hx]
          have hxo := he.add.okAt hx
          -- region 21  ref.go:81
          refine EW_region ?_
          refine EL_s rfl rfl rfl (os_assign rfl) ?_
          refine EL_nil ?_
          refine EQ_then (EQ_wp ?_)
          refine EW_block ?_
          refine EW_loop (σ := Nat × Bool) (fun ⟨j, th2⟩ => [(2, .pointer (some ⟨b2, 0, none⟩)), (3, .pointer (some ⟨b3, 0, none⟩)), (4, .pointer (some ⟨b4, 0, none⟩)), (6, .slice a n c), (7, .bool bN), (10, .pointer (some ⟨b10, 0, none⟩)), (11, .bool th2), (12, .int .i64 (k : Int)), (13, .int .i64 (j : Int))]) (fun ⟨j, th2⟩ => I0) (fun ⟨j, th2⟩ => S :: [(b10, .cells #[.slice none 0 0, .int .u64 nx, .int .u64 e.sq] 25)] :: [(b4, .cells Vr0.v.cells 25)] :: [(b3, .cells e.v.cells 35)] :: [(b2, .cells rb.v.cells 25)] :: L0) (fun ⟨j, th2⟩ => j ≤ n ∧ th2 = (th || ((qs.map (·.f)).take j).any (isNum x.f.num))) (fun ⟨j, th2⟩ => n - j) (0, th) ⟨Nat.zero_le _, by simp⟩ (by exact ⟨rfl, rfl, rfl, rfl, rfl, rfl, rfl, rfl, rfl, trivial⟩) (fun w h => h) ?_
          rintro ⟨j, th2⟩ ⟨hj, ht⟩
          refine EW_seq ?_
          refine EW_seq ?_
          -- region 22  ref.go:81
          refine EW_region ?_
          refine EL_s rfl rfl rfl (os_move rfl) ?_
          refine EL_s rfl rfl rfl (os_move rfl) ?_
          refine EL_s rfl rfl rfl (os_len rfl sl22) ?_
          refine EL_s rfl rfl rfl (os_lss rfl rfl) ?_
          refine EL_nil ?_
          refine EQ_then (EQ_wp ?_)
          refine EW_cond rfl (fun h => ?_) (fun h => ?_)
          · try simp only [decide_eq_true_eq, decide_eq_false_iff_not, Bool.not_eq_true', Bool.not_eq_false'] at h
            refine EW_skip ?_
            refine EQ_then (EQ_wp ?_)
            refine EW_seq ?_
            refine EW_block ?_
            obtain ⟨y, hy⟩ := get_some (l := qs) (k := j) (by omega)
            have gy : (qs.map (·.f))[j]? = some y.f := by simp [hy]
            -- region 24 DRAWN  ref.go:82
            refine EW_draw [] [.s, .s, .s, .s, .s, .s, .s, .s, .s, .s, .s, .s, .s, .s, .s, .s] [0, 1, 2, 3, 4, 5, 6, 7, 8, 9, 10, 11, 12, 13, 14, 15] mixed (by kernel_rfl) (by kernel_rfl) rfl ?_
            refine EP_s rfl rfl rfl rfl rfl (by exact (os_move rfl)) ?_
            refine EP_s rfl rfl rfl rfl rfl (by exact (os_move rfl)) ?_
            refine EP_split (t := 86) rfl (fun h => ?_) (fun h => ?_)
            · try simp only [decide_eq_true_eq, decide_eq_false_iff_not, Bool.not_eq_true', Bool.not_eq_false'] at h
              refine EP_no rfl rfl rfl rfl rfl rfl rfl ?_
              refine EP_no rfl rfl rfl rfl rfl rfl rfl ?_
              refine EP_no rfl rfl rfl rfl rfl rfl rfl ?_
              refine EP_no rfl rfl rfl rfl rfl rfl rfl ?_
              refine EP_no rfl rfl rfl rfl rfl rfl rfl ?_
              refine EP_no rfl rfl rfl rfl rfl rfl rfl ?_
              refine EP_no rfl rfl rfl rfl rfl rfl rfl ?_
              refine EP_no rfl rfl rfl rfl rfl rfl rfl ?_
              refine EP_no rfl rfl rfl rfl rfl rfl rfl ?_
              refine EP_no rfl rfl rfl rfl rfl rfl rfl ?_
              refine EP_no rfl rfl rfl rfl rfl rfl rfl ?_
              refine EP_no rfl rfl rfl rfl rfl rfl rfl ?_
              refine EP_s rfl rfl rfl rfl rfl (by exact (os_pick_t rfl rfl)) ?_
              refine EP_s rfl rfl rfl rfl rfl (by exact (os_assign rfl)) ?_
              refine EP_nil ?_
              refine EQ_block_normal ?_
              refine EQ_then (EQ_wp ?_)
              -- region 23  ref.go:81
              refine EW_region ?_
              refine EL_s rfl rfl rfl (os_move rfl) ?_
              refine EL_s rfl rfl rfl (os_add_in rfl rfl (IntWalk.i64_in _ (by omega))) ?_
              refine EL_s rfl rfl rfl (os_assign rfl) ?_
              refine EL_nil ?_
              refine EQ_round (j + 1, true) ?_ ?_ ?_ ?_
              · exact ⟨by omega, by rw [any_snoc gy, ← Bool.or_assoc, ← ht, h]; rfl⟩
              · first | omega | (dsimp only; omega)
              · exact ⟨rfl, rfl, rfl, rfl, rfl, rfl, rfl, rfl, rfl, trivial⟩
              · exact fun w h => h
            · try simp only [decide_eq_true_eq, decide_eq_false_iff_not, Bool.not_eq_true', Bool.not_eq_false'] at h
              refine EP_s_yes rfl rfl rfl rfl rfl rfl rfl (by exact (os_move rfl)) ?_
              refine EP_s_yes rfl rfl rfl rfl rfl rfl rfl (by exact (os_move rfl)) ?_
              refine EP_s_yes rfl rfl rfl rfl rfl rfl rfl (by exact (os_at (j) rfl rfl (by omega) sl22 (by omega) ((ho.row' (L := L0)).some (by omega)))) ?_
              refine EP_s_yes rfl rfl rfl rfl rfl rfl rfl (by exact (os_fieldA rfl (ho.row.spot _) fl55_0)) ?_
              refine EP_s_yes rfl rfl rfl rfl rfl rfl rfl (by exact (os_load_one rfl one23 ((ho.get hy).at 0 rfl))) ?_
              refine EP_s_yes rfl rfl rfl rfl rfl rfl rfl (by exact (os_field rfl fl35_1)) ?_
              refine EP_s_yes rfl rfl rfl rfl rfl rfl rfl (by exact (os_load_one rfl one22 (cells_own (own_tail (own_tail (own_tail own_head))) rfl))) ?_
              refine EP_s_yes rfl rfl rfl rfl rfl rfl rfl (by exact (os_move rfl)) ?_
              refine EP_s_yes rfl rfl rfl rfl rfl rfl rfl (by exact (os_at (k) rfl rfl (by omega) sl22 (by omega) (he.add.row.some (by omega)))) ?_
              refine EP_s_yes rfl rfl rfl rfl rfl rfl rfl (by exact (os_fieldA rfl (he.add.row.spotAt (by decide) (by omega) _) fl55_0)) ?_
              refine EP_s_yes rfl rfl rfl rfl rfl rfl rfl (by exact (os_load_one rfl one23 (((he.add.get hx).mono (.refl _) (.nil _)).at 0 rfl))) ?_
              refine EP_s_yes rfl rfl rfl rfl rfl rfl rfl (by exact (os_eql rfl rfl)) ?_
              refine EP_s rfl rfl rfl rfl rfl (by exact (os_pick_f rfl rfl)) ?_
              refine EP_s rfl rfl rfl rfl rfl (by exact (os_assign rfl)) ?_
              refine EP_nil ?_
              refine EQ_block_normal ?_
              refine EQ_then (EQ_wp ?_)
              -- region 23  ref.go:81
              refine EW_region ?_
              refine EL_s rfl rfl rfl (os_move rfl) ?_
              refine EL_s rfl rfl rfl (os_add_in rfl rfl (IntWalk.i64_in _ (by omega))) ?_
              refine EL_s rfl rfl rfl (os_assign rfl) ?_
              refine EL_nil ?_
              refine EQ_round (j + 1, decide (y.f.num = x.f.num)) ?_ ?_ ?_ ?_
              · exact ⟨by omega, by rw [any_snoc gy, ← Bool.or_assoc, ← ht, h]; rfl⟩
              · first | omega | (dsimp only; omega)
              · exact ⟨rfl, rfl, rfl, rfl, rfl, rfl, rfl, rfl, rfl, trivial⟩
              · exact fun w h => h
          · try simp only [decide_eq_true_eq, decide_eq_false_iff_not, Bool.not_eq_true', Bool.not_eq_false'] at h
            refine EW_exit ?_
            refine EQ_then_exit (EQ_then_exit (EQ_block_exit (?_)))
            refine EQ_then (EQ_wp ?_)
            refine EW_seq ?_
            have ht2 : th2 = (th || (qs.map (·.f)).any (isNum x.f.num)) := by rw [ht, List.take_of_length_le (by rw [List.length_map]; omega)]
            -- region 25  ref.go:84
            refine EW_region ?_
            refine EL_s rfl rfl rfl (os_move rfl) ?_
            refine EL_s rfl rfl rfl (os_len rfl sl22) ?_
            refine EL_s rfl rfl rfl (os_assign rfl) ?_
            refine EL_nil ?_
            refine EQ_then (EQ_wp ?_)
            refine EW_seq_cut (σ := Nat) (fun j => [(2, .pointer (some ⟨b2, 0, none⟩)), (3, .pointer (some ⟨b3, 0, none⟩)), (4, .pointer (some ⟨b4, 0, none⟩)), (6, .slice a n c), (7, .bool bN), (10, .pointer (some ⟨b10, 0, none⟩)), (11, .bool th2), (12, .int .i64 (k : Int)), (14, .int .i64 (j : Int))]) (fun j => I0) (fun j => S :: [(b10, .cells #[.slice none 0 0, .int .u64 nx, .int .u64 e.sq] 25)] :: [(b4, .cells Vr0.v.cells 25)] :: [(b3, .cells e.v.cells 35)] :: [(b2, .cells rb.v.cells 25)] :: L0) (fun j => j ≤ n ∧ posR x.f (qs.map (·.f)) n = j) ?_ ?_
            · skip
              refine EW_block ?_
              refine EW_loop (σ := Nat) (fun j => [(2, .pointer (some ⟨b2, 0, none⟩)), (3, .pointer (some ⟨b3, 0, none⟩)), (4, .pointer (some ⟨b4, 0, none⟩)), (6, .slice a n c), (7, .bool bN), (10, .pointer (some ⟨b10, 0, none⟩)), (11, .bool th2), (12, .int .i64 (k : Int)), (14, .int .i64 (j : Int))]) (fun j => I0) (fun j => S :: [(b10, .cells #[.slice none 0 0, .int .u64 nx, .int .u64 e.sq] 25)] :: [(b4, .cells Vr0.v.cells 25)] :: [(b3, .cells e.v.cells 35)] :: [(b2, .cells rb.v.cells 25)] :: L0) (fun j => j ≤ n ∧ posR x.f (qs.map (·.f)) j = posR x.f (qs.map (·.f)) n) (fun j => j) n ⟨Nat.le_refl _, rfl⟩ (by exact ⟨rfl, rfl, rfl, rfl, rfl, rfl, rfl, rfl, rfl, trivial⟩) (fun w h => h) ?_
              rintro j ⟨hj, hp⟩
              refine EW_seq ?_
              refine EW_seq ?_
              -- region 26 DRAWN  ref.go:85
              refine EW_draw [] [.s, .s, .s, .s, .s, .s, .s, .s, .s, .s, .s, .s, .s, .s, .s] [0, 1, 2, 3, 4, 5, 6, 7, 8, 9, 10, 11, 12, 13, 14] mixed (by kernel_rfl) (by kernel_rfl) rfl ?_
              refine EP_s rfl rfl rfl rfl rfl (by exact (os_move rfl)) ?_
              refine EP_s rfl rfl rfl rfl rfl (by exact (os_gtr rfl rfl)) ?_
              refine EP_s rfl rfl rfl rfl rfl (by exact (os_move rfl)) ?_
              refine EP_split (t := 104) rfl (fun h => ?_) (fun h => ?_)
              · try simp only [decide_eq_true_eq, decide_eq_false_iff_not, Bool.not_eq_true', Bool.not_eq_false'] at h
                obtain ⟨y, hy⟩ := get_some (l := qs) (k := j - 1) (by omega)
                have gy : (qs.map (·.f))[j - 1]? = some y.f := by simp [hy]
                refine EP_s_yes rfl rfl rfl rfl rfl rfl rfl (by exact (os_field rfl fl35_1)) ?_
                refine EP_s_yes rfl rfl rfl rfl rfl rfl rfl (by exact (os_load_one rfl one22 (cells_own (own_tail (own_tail (own_tail own_head))) rfl))) ?_
                refine EP_s_yes rfl rfl rfl rfl rfl rfl rfl (by exact (os_move rfl)) ?_
                refine EP_s_yes rfl rfl rfl rfl rfl rfl rfl (by exact (os_at (k) rfl rfl (by omega) sl22 (by omega) (he.add.row.some (by omega)))) ?_
                refine EP_s_yes rfl rfl rfl rfl rfl rfl rfl (by exact (os_load_agg (cs := rcells x) rfl agg55 ((he.add.get hx).mono (.refl _) (.nil _)))) ?_
                refine EP_s_yes rfl rfl rfl rfl rfl rfl rfl (by exact (os_move rfl)) ?_
                refine EP_s_yes rfl rfl rfl rfl rfl rfl rfl (by exact (os_move rfl)) ?_
                refine EP_s_yes rfl rfl rfl rfl rfl rfl rfl (by exact (os_sub_in rfl rfl (IntWalk.i64_in _ (by omega)))) ?_
                refine EP_s_yes rfl rfl rfl rfl rfl rfl rfl (by exact (os_at ((j - 1)) rfl rfl (by omega) sl22 (by omega) ((ho.row' (L := L0)).some (by omega)))) ?_
                refine EP_s_yes rfl rfl rfl rfl rfl rfl rfl (by exact (os_load_agg (cs := rcells y) rfl agg55 (ho.get hy))) ?_
                refine EP_s_yes rfl rfl rfl rfl rfl rfl rfl (by exact (os_call (vs := [_, _]) body20 rfl (r_ahead hxo (ho.okAt hy)))) ?_
                refine EP_s rfl rfl rfl rfl rfl (by exact (os_pick_t rfl rfl)) ?_
                refine EP_nil ?_
                refine EQ_then (EQ_wp ?_)
                refine EW_cond rfl (fun h => ?_) (fun h => ?_)
                · try simp only [decide_eq_true_eq, decide_eq_false_iff_not, Bool.not_eq_true', Bool.not_eq_false'] at h
                  have hA := h
                  refine EW_skip ?_
                  refine EQ_then (EQ_wp ?_)
                  refine EW_block ?_
                  -- region 27  ref.go:86
                  refine EW_region ?_
                  refine EL_s rfl rfl rfl (os_move rfl) ?_
                  refine EL_s rfl rfl rfl (os_sub_in rfl rfl (IntWalk.i64_in _ (by omega))) ?_
                  refine EL_s rfl rfl rfl (os_assign rfl) ?_
                  refine EL_nil ?_
                  refine EQ_block_normal ?_
                  refine EQ_round (j - 1) ?_ ?_ ?_ ?_
                  · exact ⟨by omega, by have h7 := posR_step (l := qs.map (·.f)) (k := j - 1) gy hA; rw [show j - 1 + 1 = j from by omega] at h7; rw [← hp, h7]⟩
                  · first | omega | (dsimp only; omega)
                  · exact ⟨rfl, rfl, rfl, rfl, rfl, rfl, rfl, rfl, (congrArg (fun z => some (Value.int .i64 z)) (by omega)), trivial⟩
                  · exact fun w h => h
                · try simp only [decide_eq_true_eq, decide_eq_false_iff_not, Bool.not_eq_true', Bool.not_eq_false'] at h
                  have hA := h
                  refine EW_exit ?_
                  refine EQ_then_exit (EQ_then_exit (EQ_block_exit (?_)))
                  refine EQ_cut j ?_ ?_ ?_
                  · exact ⟨hj, by have h7 := posR_stop (l := qs.map (·.f)) (k := j - 1) gy hA; rw [show j - 1 + 1 = j from by omega] at h7; rw [← hp, h7]⟩
                  · exact ⟨rfl, rfl, rfl, rfl, rfl, rfl, rfl, rfl, rfl, trivial⟩
                  · exact fun w h => h
              · try simp only [decide_eq_true_eq, decide_eq_false_iff_not, Bool.not_eq_true', Bool.not_eq_false'] at h
                refine EP_no rfl rfl rfl rfl rfl rfl rfl ?_
                refine EP_no rfl rfl rfl rfl rfl rfl rfl ?_
                refine EP_no rfl rfl rfl rfl rfl rfl rfl ?_
                refine EP_no rfl rfl rfl rfl rfl rfl rfl ?_
                refine EP_no rfl rfl rfl rfl rfl rfl rfl ?_
                refine EP_no rfl rfl rfl rfl rfl rfl rfl ?_
                refine EP_no rfl rfl rfl rfl rfl rfl rfl ?_
                refine EP_no rfl rfl rfl rfl rfl rfl rfl ?_
                refine EP_no rfl rfl rfl rfl rfl rfl rfl ?_
                refine EP_no rfl rfl rfl rfl rfl rfl rfl ?_
                refine EP_no rfl rfl rfl rfl rfl rfl rfl ?_
                refine EP_s rfl rfl rfl rfl rfl (by exact (os_pick_f rfl rfl)) ?_
                refine EP_nil ?_
                refine EQ_then (EQ_wp ?_)
                refine EW_false rfl ?_
                refine EW_exit ?_
                refine EQ_then_exit (EQ_then_exit (EQ_block_exit (?_)))
                obtain rfl : j = 0 := by omega
                refine EQ_cut 0 ?_ ?_ ?_
                · exact ⟨Nat.zero_le _, by rw [← hp]; rfl⟩
                · exact ⟨rfl, rfl, rfl, rfl, rfl, rfl, rfl, rfl, rfl, trivial⟩
                · exact fun w h => h
            · rintro j ⟨hj, hp⟩
              have hins : insR x.f (qs.map (·.f)) = (qs.take j ++ (x :: qs.drop j)).map (·.f) := by unfold insR; rw [show (qs.map (·.f)).length = n from by rw [List.length_map]; omega, hp]; simp [List.map_take, List.map_drop]
              refine EW_seq ?_
              -- region 28  ref.go:88
              refine EW_region ?_
              refine EL_a rfl rfl rfl (oa_slice [] sl22 z55 rfl rfl rfl rfl) ?_; intro b119
              refine EL_s rfl rfl rfl (os_move rfl) ?_
              refine EL_s rfl rfl rfl (os_move rfl) ?_
              refine EL_s rfl rfl rfl (os_slice_to j rfl rfl rfl sl22 (by omega)) ?_
              refine EL_y rfl rfl rfl (ox_append rfl rfl sl22 z55 rfl (by decide) (OwnRow.lit (xs := []) rfl (fun x hx => by cases hx) rfl (by decide)) pick0 ((ho.row.take j (by omega)).src (fun x hx => .inr (own_tail (own_seg hx))) (by decide) (fun x hx => flat_one rcells_one (qs.take j) x (by rw [List.map_take]; exact hx))) ho.row.nil (by omega) (by unfold maxLen; omega)) ?_
              rintro L4 v4 ⟨a4, c4, S4, rfl, rfl, ho4, hn4, hc4⟩
              refine EL_s rfl rfl rfl (os_assign rfl) ?_
              refine EL_nil ?_
              refine EQ_then (EQ_wp ?_)
              refine EW_seq ?_
              -- region 29  ref.go:89
              refine EW_region ?_
              refine EL_s rfl rfl rfl (os_move rfl) ?_
              refine EL_s rfl rfl rfl (os_field rfl fl35_1) ?_
              refine EL_s rfl rfl rfl (os_load_one rfl one22 (cells_own (own_tail (own_tail (own_tail (own_tail own_head)))) rfl)) ?_
              refine EL_s rfl rfl rfl (os_move rfl) ?_
              refine EL_s rfl rfl rfl (os_at (k) rfl rfl (by omega) sl22 (by omega) (he.add.row.some (by omega))) ?_
              refine EL_s rfl rfl rfl (os_load_agg (cs := rcells x) rfl agg55 ((he.add.get hx).mono (.refl _) (.nil _))) ?_
              refine EL_a rfl rfl rfl (oa_slice [_] sl22 z55 rfl rfl rfl rfl) ?_; intro b130
              refine EL_y rfl rfl rfl (ox_append rfl rfl sl22 z55 rfl (by decide) ho4 (pickS pick0) (src_r x) (fun h => by cases h) (by omega) (by unfold maxLen; omega)) ?_
              rintro L5 v5 ⟨a5, c5, S5, rfl, rfl, ho5, hn5, hc5⟩
              refine EL_s rfl rfl rfl (os_assign rfl) ?_
              refine EL_nil ?_
              refine EQ_then (EQ_wp ?_)
              refine EW_seq ?_
              -- region 30  ref.go:90
              refine EW_region ?_
              refine EL_s rfl rfl rfl (os_move rfl) ?_
              refine EL_s rfl rfl rfl (os_move rfl) ?_
              refine EL_s rfl rfl rfl (os_move rfl) ?_
              refine EL_s rfl rfl rfl (os_sub_slice (k := .i64) (k' := .i64) j n rfl sl22 ⟨_, rfl, by omega⟩ rfl (by omega) (by omega)) ?_
              refine EL_y rfl rfl rfl (ox_append rfl rfl sl22 z55 rfl (by decide) ho5 pick0 (((ho.row.row (fun x hx => .inr (own_tail (own_tail (own_seg hx))))).sub (by decide) (by omega : j ≤ n) (Nat.le_refl n)).src (by decide) (fun x hx => flat_one rcells_one qs x (mem_flat_extract hx))) ((ho.row' (L := L0)).sub (by decide) (by omega : j ≤ n) (Nat.le_refl n)).nil (by omega) (by unfold maxLen; omega)) ?_
              rintro L6 v6 ⟨a6, c6, S6, rfl, rfl, ho6, hn6, hc6⟩
              refine EL_s rfl rfl rfl (os_assign rfl) ?_
              refine EL_nil ?_
              refine EQ_then (EQ_wp ?_)
              refine EW_seq ?_
              -- region 31 DRAWN  ref.go:91
              refine EW_draw [] [.s, .s, .s, .s, .s, .s, .s, .s, .s, .s] [0, 1, 2, 3, 4, 5, 6, 7, 8, 9] mixed (by kernel_rfl) (by kernel_rfl) rfl ?_
              refine EP_s rfl rfl rfl rfl rfl (by exact (os_field rfl fl35_1)) ?_
              refine EP_s rfl rfl rfl rfl rfl (by exact (os_load_one rfl one22 (cells_own (own_tail (own_tail (own_tail (own_tail (own_tail own_head))))) rfl))) ?_
              refine EP_s rfl rfl rfl rfl rfl (by exact (os_move rfl)) ?_
              refine EP_s rfl rfl rfl rfl rfl (by exact (os_at (k) rfl rfl (by omega) sl22 (by omega) (he.add.row.some (by omega)))) ?_
              refine EP_s rfl rfl rfl rfl rfl (by exact (os_fieldA rfl (he.add.row.spotAt (by decide) (by omega) _) fl55_0)) ?_
              refine EP_s rfl rfl rfl rfl rfl (by exact (os_load_one rfl one23 (((he.add.get hx).mono (.refl _) (.nil _)).at 0 rfl))) ?_
              refine EP_s rfl rfl rfl rfl rfl (by exact (os_add rfl rfl)) ?_
              refine EP_s rfl rfl rfl rfl rfl (by exact (os_field rfl fl25_1)) ?_
              refine EP_s rfl rfl rfl rfl rfl (by exact (os_load_one rfl one23 (cells_own (own_tail (own_tail (own_tail own_head))) rfl))) ?_
              refine EP_s rfl rfl rfl rfl rfl (by exact (os_gtr rfl rfl)) ?_
              refine EP_nil ?_
              refine EQ_then (EQ_wp ?_)
              refine EW_cond rfl (fun h => ?_) (fun h => ?_)
              · try simp only [decide_eq_true_eq, decide_eq_false_iff_not, Bool.not_eq_true', Bool.not_eq_false'] at h
                have hx2 := h
                -- region 32  ref.go:92
                refine EW_region ?_
                refine EL_s rfl rfl rfl (os_field rfl fl35_1) ?_
                refine EL_s rfl rfl rfl (os_load_one rfl one22 (cells_own (own_tail (own_tail (own_tail (own_tail (own_tail own_head))))) rfl)) ?_
                refine EL_s rfl rfl rfl (os_move rfl) ?_
                refine EL_s rfl rfl rfl (os_at (k) rfl rfl (by omega) sl22 (by omega) (he.add.row.some (by omega))) ?_
                refine EL_s rfl rfl rfl (os_fieldA rfl (he.add.row.spotAt (by decide) (by omega) _) fl55_0) ?_
                refine EL_s rfl rfl rfl (os_load_one rfl one23 (((he.add.get hx).mono (.refl _) (.nil _)).at 0 rfl)) ?_
                refine EL_s rfl rfl rfl (os_add rfl rfl) ?_
                refine EL_s rfl rfl rfl (os_field rfl fl25_1) ?_
                refine EL_u rfl rfl (ox_store rfl rfl sz23 rfl (by rfl) (.tail (.tail (.tail (.head .head))))) ?_
                refine EL_nil ?_
                refine EQ_block_normal ?_
                refine EQ_then (EQ_wp ?_)
                -- region 20  ref.go:80
                refine EW_region ?_
                refine EL_s rfl rfl rfl (os_move rfl) ?_
                refine EL_s rfl rfl rfl (os_add_in rfl rfl (IntWalk.i64_in _ (by omega))) ?_
                refine EL_s rfl rfl rfl (os_assign rfl) ?_
                refine EL_nil ?_
                refine EQ_round (k + 1, th2, a6, 0 + j + 1 + (n - j), c6, S6, (qs.take j ++ (x :: qs.drop j)), IntKind.u64.wrap (x.f.num + 1)) ?_ ?_ ?_ ?_
                · exact ⟨by omega, FOwn.app ho6 (by rw [ext_map qs j e4.symm]; simp [List.map_take, List.map_drop]) (ok_ins ho.ok hxo) (by rw [List.length_append, List.length_take, List.length_cons, List.length_drop]; omega), by rw [← ha, addsR_step hxf, ← ht2, hins, nextM, if_pos hx2], by rw [List.length_append, List.length_take, List.length_cons, List.length_drop]; omega, wrap_u64 _⟩
                · first | omega | (dsimp only; omega)
                · exact ⟨rfl, rfl, rfl, rfl, rfl, rfl, rfl, rfl, trivial⟩
                · exact fun w h => h.incl ((((Incl.refl _).skip _).skip _).cons _)
              · try simp only [decide_eq_true_eq, decide_eq_false_iff_not, Bool.not_eq_true', Bool.not_eq_false'] at h
                have hx2 := h
                refine EW_skip ?_
                refine EQ_block_normal ?_
                refine EQ_then (EQ_wp ?_)
                -- region 20  ref.go:80
                refine EW_region ?_
                refine EL_s rfl rfl rfl (os_move rfl) ?_
                refine EL_s rfl rfl rfl (os_add_in rfl rfl (IntWalk.i64_in _ (by omega))) ?_
                refine EL_s rfl rfl rfl (os_assign rfl) ?_
                refine EL_nil ?_
                refine EQ_round (k + 1, th2, a6, 0 + j + 1 + (n - j), c6, S6, (qs.take j ++ (x :: qs.drop j)), nx) ?_ ?_ ?_ ?_
                · exact ⟨by omega, FOwn.app ho6 (by rw [ext_map qs j e4.symm]; simp [List.map_take, List.map_drop]) (ok_ins ho.ok hxo) (by rw [List.length_append, List.length_take, List.length_cons, List.length_drop]; omega), by rw [← ha, addsR_step hxf, ← ht2, hins, nextM, if_neg hx2], by rw [List.length_append, List.length_take, List.length_cons, List.length_drop]; omega, hn0, hn1⟩
                · first | omega | (dsimp only; omega)
                · exact ⟨rfl, rfl, rfl, rfl, rfl, rfl, rfl, rfl, trivial⟩
                · exact fun w h => h.incl ((((Incl.refl _).skip _).skip _).cons _)
        · try simp only [decide_eq_true_eq, decide_eq_false_iff_not, Bool.not_eq_true', Bool.not_eq_false'] at h
          refine EW_exit ?_
          refine EQ_then_exit (EQ_then_exit (EQ_block_exit (?_)))
          refine EQ_then (EQ_wp ?_)
          refine EW_seq ?_
          refine EW_freeze (S := S) pick0 fun I9 hI9 hS9 => ?_
          have ha2 : addsR l false (baseV r.abs e.abs).nx e.abs.add = (qs.map (·.f), th, nx) := by rw [← ha, List.drop_eq_nil_of_le (by simp [Er.abs]; omega)]; rfl
          have hw : Vr.Ok rcells I9 ⟨⟨a, n, c⟩, qs, nx, e.sq⟩ := ⟨(ho.mono hI9).frow fun x hx => .inl (hS9 x hx), hn0, hn1, he.sq0, he.sq1⟩
          -- region 33  ref.go:95
          refine EW_region ?_
          refine EL_s rfl rfl rfl (os_move rfl) ?_
          refine EL_s rfl rfl rfl (os_field rfl fl25_0) ?_
          refine EL_u rfl rfl (ox_store rfl rfl sz22 rfl (by rfl) (.head .head)) ?_
          refine EL_nil ?_
          refine EQ_then (EQ_wp ?_)
          refine EW_seq ?_
          refine EW_block ?_
          refine EW_seq ?_
          -- region 34  ref.go:97
          refine EW_region ?_
          refine EL_s rfl rfl rfl (os_move rfl) ?_
          refine EL_s rfl rfl rfl (os_not rfl) ?_
          refine EL_s rfl rfl rfl (os_move rfl) ?_
          refine EL_split (t := 160) rfl (fun h => ?_) (fun h => ?_)
          · try simp only [decide_eq_true_eq, decide_eq_false_iff_not, Bool.not_eq_true', Bool.not_eq_false'] at h
            refine EL_yes (j := 2) (d := 160) (b := true) rfl rfl rfl ?_
            refine EL_s rfl rfl rfl (os_move rfl) ?_
            refine EL_yes (j := 2) (d := 160) (b := true) rfl rfl rfl ?_
            refine EL_s rfl rfl rfl (os_not rfl) ?_
            refine EL_s rfl rfl rfl (os_pick_t rfl rfl) ?_
            refine EL_s rfl rfl rfl (os_move rfl) ?_
            refine EL_split (t := 164) rfl (fun h => ?_) (fun h => ?_)
            · try simp only [decide_eq_true_eq, decide_eq_false_iff_not, Bool.not_eq_true', Bool.not_eq_false'] at h
              refine EL_yes (j := 6) (d := 164) (b := true) rfl rfl rfl ?_
              refine EL_s rfl rfl rfl (os_load_agg (cs := [_, _, _]) rfl agg25 (cells_own own_head rfl)) ?_
              refine EL_yes (j := 6) (d := 164) (b := true) rfl rfl rfl ?_
              refine EL_s rfl rfl rfl (os_call (vs := [_]) body8 rfl (r_Right (r := ⟨⟨a, n, c⟩, qs, nx, e.sq⟩) hw)) ?_
              refine EL_yes (j := 6) (d := 164) (b := true) rfl rfl rfl ?_
              refine EL_s rfl rfl rfl (os_not rfl) ?_
              refine EL_s rfl rfl rfl (os_pick_t rfl rfl) ?_
              refine EL_s rfl rfl rfl (os_assign rfl) ?_
              refine EL_nil ?_
              refine EQ_then (EQ_wp ?_)
              refine EW_cond rfl (fun h => ?_) (fun h => ?_)
              · try simp only [decide_eq_true_eq, decide_eq_false_iff_not, Bool.not_eq_true', Bool.not_eq_false'] at h
                have hR2 := h
                have hN : bN = false := by assumption
                have hT : th = false := by assumption
                subst hN hT
                refine EW_seq ?_
                -- region 35  ref.go:98
                refine EW_region ?_
                refine EL_s rfl rfl rfl (os_struct (cs := [_, _, _]) [] pl25 z25 rfl rfl) ?_
                refine EL_u rfl rfl (ox_store rfl rfl sz25 rfl (by rfl) (.tail (.head .head))) ?_
                refine EL_s rfl rfl rfl (os_assign rfl) ?_
                refine EL_nil ?_
                refine EQ_then (EQ_wp ?_)
                refine EW_ret ?_
                refine EQ_block_ret (EQ_then_ret (?_))
                exact pc_ret2 Try.results11 (rv_agg (cs := [_, _, _]) rfl agg25 (cells_own (own_tail own_head) rfl)) (rv_tmp rfl) hI9 (((((Incl.refl _).skip _).skip _).skip _).skip _) ⟨Vr0, 3, rfl, Vr0_ok _ _, .bad hR hd2 ha2 hR2⟩ (.inl rfl)
              · try simp only [decide_eq_true_eq, decide_eq_false_iff_not, Bool.not_eq_true', Bool.not_eq_false'] at h
                have hR2 := h
                refine EW_seq ?_
                -- region 36  ref.go:99
                refine EW_region ?_
                refine EL_s rfl rfl rfl (os_move rfl) ?_
                refine EL_s rfl rfl rfl (os_assign rfl) ?_
                refine EL_nil ?_
                refine EQ_then (EQ_wp ?_)
                refine EW_cond rfl (fun h => ?_) (fun h => ?_)
                · try simp only [decide_eq_true_eq, decide_eq_false_iff_not, Bool.not_eq_true', Bool.not_eq_false'] at h
                  have hN := h
                  refine EW_seq ?_
                  -- region 37  ref.go:100
                  refine EW_region ?_
                  refine EL_s rfl rfl rfl (os_struct (cs := [_, _, _]) [] pl25 z25 rfl rfl) ?_
                  refine EL_u rfl rfl (ox_store rfl rfl sz25 rfl (by rfl) (.tail (.head .head))) ?_
                  refine EL_s rfl rfl rfl (os_assign rfl) ?_
                  refine EL_nil ?_
                  refine EQ_then (EQ_wp ?_)
                  refine EW_ret ?_
                  refine EQ_block_ret (EQ_then_ret (?_))
                  exact absurd (hN.symm.trans (by assumption : bN = false)) (by decide)
                · try simp only [decide_eq_true_eq, decide_eq_false_iff_not, Bool.not_eq_true', Bool.not_eq_false'] at h
                  have hN := h
                  refine EW_seq ?_
                  -- region 38  ref.go:101
                  refine EW_region ?_
                  refine EL_s rfl rfl rfl (os_move rfl) ?_
                  refine EL_s rfl rfl rfl (os_assign rfl) ?_
                  refine EL_nil ?_
                  refine EQ_then (EQ_wp ?_)
                  refine EW_cond rfl (fun h => ?_) (fun h => ?_)
                  · try simp only [decide_eq_true_eq, decide_eq_false_iff_not, Bool.not_eq_true', Bool.not_eq_false'] at h
                    have hT := h
                    refine EW_seq ?_
                    -- region 39  ref.go:102
                    refine EW_region ?_
                    refine EL_s rfl rfl rfl (os_struct (cs := [_, _, _]) [] pl25 z25 rfl rfl) ?_
                    refine EL_u rfl rfl (ox_store rfl rfl sz25 rfl (by rfl) (.tail (.head .head))) ?_
                    refine EL_s rfl rfl rfl (os_assign rfl) ?_
                    refine EL_nil ?_
                    refine EQ_then (EQ_wp ?_)
                    refine EW_ret ?_
                    refine EQ_block_ret (EQ_then_ret (?_))
                    exact absurd (hT.symm.trans (by assumption : th = false)) (by decide)
                  · try simp only [decide_eq_true_eq, decide_eq_false_iff_not, Bool.not_eq_true', Bool.not_eq_false'] at h
                    have hT := h
                    refine EW_seq ?_
                    -- region 40  ref.go:103
                    refine EW_region ?_
                    refine EL_s rfl rfl rfl (os_field rfl fl35_3) ?_
                    refine EL_s rfl rfl rfl (os_load_one rfl one23 (cells_own (own_tail (own_tail own_head)) rfl)) ?_
                    refine EL_s rfl rfl rfl (os_field rfl fl25_2) ?_
                    refine EL_s rfl rfl rfl (os_load_one rfl one23 (cells_own (own_tail (own_tail (own_tail own_head))) rfl)) ?_
                    refine EL_s rfl rfl rfl (os_lss rfl rfl) ?_
                    refine EL_s rfl rfl rfl (os_assign rfl) ?_
                    refine EL_nil ?_
                    refine EQ_then (EQ_wp ?_)
                    refine EW_cond rfl (fun h => ?_) (fun h => ?_)
                    · try simp only [decide_eq_true_eq, decide_eq_false_iff_not, Bool.not_eq_true', Bool.not_eq_false'] at h
                      have hs := h
                      refine EW_seq ?_
                      -- region 41  ref.go:104
                      refine EW_region ?_
                      refine EL_s rfl rfl rfl (os_struct (cs := [_, _, _]) [] pl25 z25 rfl rfl) ?_
                      refine EL_u rfl rfl (ox_store rfl rfl sz25 rfl (by rfl) (.tail (.head .head))) ?_
                      refine EL_s rfl rfl rfl (os_assign rfl) ?_
                      refine EL_nil ?_
                      refine EQ_then (EQ_wp ?_)
                      refine EW_ret ?_
                      refine EQ_block_ret (EQ_then_ret (?_))
                      exact pc_ret2 Try.results11 (rv_agg (cs := [_, _, _]) rfl agg25 (cells_own (own_tail own_head) rfl)) (rv_tmp rfl) hI9 (((((Incl.refl _).skip _).skip _).skip _).skip _) ⟨Vr0, 13, rfl, Vr0_ok _ _, .old hR (hN ▸ hd2) (hT ▸ ha2) hR2 (by rw [← hbase]; exact hs)⟩ (.inl rfl)
                    · try simp only [decide_eq_true_eq, decide_eq_false_iff_not, Bool.not_eq_true', Bool.not_eq_false'] at h
                      have hs := h
                      refine EW_skip ?_
                      refine EQ_block_normal ?_
                      refine EQ_then (EQ_wp ?_)
                      refine EW_seq ?_
                      -- region 42  ref.go:106
                      refine EW_region ?_
                      refine EL_s rfl rfl rfl (os_load_agg (cs := [_, _, _]) rfl agg25 (cells_own own_head rfl)) ?_
                      refine EL_u rfl rfl (ox_store rfl rfl sz25 rfl (by rfl) (.tail (.head .head))) ?_
                      refine EL_s rfl rfl rfl (os_assign rfl) ?_
                      refine EL_nil ?_
                      refine EQ_then (EQ_wp ?_)
                      refine EW_ret ?_
                      exact pc_ret2 Try.results11 (rv_agg (cs := [_, _, _]) rfl agg25 (cells_own (own_tail own_head) rfl)) (rv_tmp rfl) hI9 (((((Incl.refl _).skip _).skip _).skip _).skip _) ⟨⟨⟨a, n, c⟩, qs, nx, e.sq⟩, 0, rfl, hw, .ok hR (hN ▸ hd2) (hT ▸ ha2) hR2 (by rw [← hbase]; exact hs)⟩ (.inl rfl)
            · try simp only [decide_eq_true_eq, decide_eq_false_iff_not, Bool.not_eq_true', Bool.not_eq_false'] at h
              refine EL_no rfl rfl rfl rfl rfl rfl ?_
              refine EL_no rfl rfl rfl rfl rfl rfl ?_
              refine EL_no rfl rfl rfl rfl rfl rfl ?_
              refine EL_s rfl rfl rfl (os_pick_f rfl rfl) ?_
              refine EL_s rfl rfl rfl (os_assign rfl) ?_
              refine EL_nil ?_
              refine EQ_then (EQ_wp ?_)
              refine EW_false rfl ?_
              refine EW_seq ?_
              -- region 36  ref.go:99
              refine EW_region ?_
              refine EL_s rfl rfl rfl (os_move rfl) ?_
              refine EL_s rfl rfl rfl (os_assign rfl) ?_
              refine EL_nil ?_
              refine EQ_then (EQ_wp ?_)
              refine EW_cond rfl (fun h => ?_) (fun h => ?_)
              · try simp only [decide_eq_true_eq, decide_eq_false_iff_not, Bool.not_eq_true', Bool.not_eq_false'] at h
                have hN := h
                refine EW_seq ?_
                -- region 37  ref.go:100
                refine EW_region ?_
                refine EL_s rfl rfl rfl (os_struct (cs := [_, _, _]) [] pl25 z25 rfl rfl) ?_
                refine EL_u rfl rfl (ox_store rfl rfl sz25 rfl (by rfl) (.tail (.head .head))) ?_
                refine EL_s rfl rfl rfl (os_assign rfl) ?_
                refine EL_nil ?_
                refine EQ_then (EQ_wp ?_)
                refine EW_ret ?_
                refine EQ_block_ret (EQ_then_ret (?_))
                exact absurd (hN.symm.trans (by assumption : bN = false)) (by decide)
              · try simp only [decide_eq_true_eq, decide_eq_false_iff_not, Bool.not_eq_true', Bool.not_eq_false'] at h
                have hN := h
                refine EW_seq ?_
                -- region 38  ref.go:101
                refine EW_region ?_
                refine EL_s rfl rfl rfl (os_move rfl) ?_
                refine EL_s rfl rfl rfl (os_assign rfl) ?_
                refine EL_nil ?_
                refine EQ_then (EQ_wp ?_)
                refine EW_cond rfl (fun h => ?_) (fun h => ?_)
                · try simp only [decide_eq_true_eq, decide_eq_false_iff_not, Bool.not_eq_true', Bool.not_eq_false'] at h
                  have hT := h
                  refine EW_seq ?_
                  -- region 39  ref.go:102
                  refine EW_region ?_
                  refine EL_s rfl rfl rfl (os_struct (cs := [_, _, _]) [] pl25 z25 rfl rfl) ?_
                  refine EL_u rfl rfl (ox_store rfl rfl sz25 rfl (by rfl) (.tail (.head .head))) ?_
                  refine EL_s rfl rfl rfl (os_assign rfl) ?_
                  refine EL_nil ?_
                  refine EQ_then (EQ_wp ?_)
                  refine EW_ret ?_
                  refine EQ_block_ret (EQ_then_ret (?_))
                  exact pc_ret2 Try.results11 (rv_agg (cs := [_, _, _]) rfl agg25 (cells_own (own_tail own_head) rfl)) (rv_tmp rfl) hI9 (((((Incl.refl _).skip _).skip _).skip _).skip _) ⟨Vr0, 7, rfl, Vr0_ok _ _, .there hR (hN ▸ hd2) (hT ▸ ha2)⟩ (.inl rfl)
                · try simp only [decide_eq_true_eq, decide_eq_false_iff_not, Bool.not_eq_true', Bool.not_eq_false'] at h
                  have hT := h
                  refine EW_seq ?_
                  -- region 40  ref.go:103
                  refine EW_region ?_
                  refine EL_s rfl rfl rfl (os_field rfl fl35_3) ?_
                  refine EL_s rfl rfl rfl (os_load_one rfl one23 (cells_own (own_tail (own_tail own_head)) rfl)) ?_
                  refine EL_s rfl rfl rfl (os_field rfl fl25_2) ?_
                  refine EL_s rfl rfl rfl (os_load_one rfl one23 (cells_own (own_tail (own_tail (own_tail own_head))) rfl)) ?_
                  refine EL_s rfl rfl rfl (os_lss rfl rfl) ?_
                  refine EL_s rfl rfl rfl (os_assign rfl) ?_
                  refine EL_nil ?_
                  refine EQ_then (EQ_wp ?_)
                  refine EW_cond rfl (fun h => ?_) (fun h => ?_)
                  · try simp only [decide_eq_true_eq, decide_eq_false_iff_not, Bool.not_eq_true', Bool.not_eq_false'] at h
                    have hs := h
                    refine EW_seq ?_
                    -- region 41  ref.go:104
                    refine EW_region ?_
                    refine EL_s rfl rfl rfl (os_struct (cs := [_, _, _]) [] pl25 z25 rfl rfl) ?_
                    refine EL_u rfl rfl (ox_store rfl rfl sz25 rfl (by rfl) (.tail (.head .head))) ?_
                    refine EL_s rfl rfl rfl (os_assign rfl) ?_
                    refine EL_nil ?_
                    refine EQ_then (EQ_wp ?_)
                    refine EW_ret ?_
                    refine EQ_block_ret (EQ_then_ret (?_))
                    exact absurd (hT.symm.trans (by assumption : th = true)) (by decide)
                  · try simp only [decide_eq_true_eq, decide_eq_false_iff_not, Bool.not_eq_true', Bool.not_eq_false'] at h
                    have hs := h
                    refine EW_skip ?_
                    refine EQ_block_normal ?_
                    refine EQ_then (EQ_wp ?_)
                    refine EW_seq ?_
                    -- region 42  ref.go:106
                    refine EW_region ?_
                    refine EL_s rfl rfl rfl (os_load_agg (cs := [_, _, _]) rfl agg25 (cells_own own_head rfl)) ?_
                    refine EL_u rfl rfl (ox_store rfl rfl sz25 rfl (by rfl) (.tail (.head .head))) ?_
                    refine EL_s rfl rfl rfl (os_assign rfl) ?_
                    refine EL_nil ?_
                    refine EQ_then (EQ_wp ?_)
                    refine EW_ret ?_
                    exact absurd (hT.symm.trans (by assumption : th = true)) (by decide)
          · try simp only [decide_eq_true_eq, decide_eq_false_iff_not, Bool.not_eq_true', Bool.not_eq_false'] at h
            refine EL_no rfl rfl rfl rfl rfl rfl ?_
            refine EL_no rfl rfl rfl rfl rfl rfl ?_
            refine EL_s rfl rfl rfl (os_pick_f rfl rfl) ?_
            refine EL_s rfl rfl rfl (os_move rfl) ?_
            refine EL_no rfl rfl rfl rfl rfl rfl ?_
            refine EL_no rfl rfl rfl rfl rfl rfl ?_
            refine EL_no rfl rfl rfl rfl rfl rfl ?_
            refine EL_s rfl rfl rfl (os_pick_f rfl rfl) ?_
            refine EL_s rfl rfl rfl (os_assign rfl) ?_
            refine EL_nil ?_
            refine EQ_then (EQ_wp ?_)
            refine EW_false rfl ?_
            refine EW_seq ?_
            -- region 36  ref.go:99
            refine EW_region ?_
            refine EL_s rfl rfl rfl (os_move rfl) ?_
            refine EL_s rfl rfl rfl (os_assign rfl) ?_
            refine EL_nil ?_
            refine EQ_then (EQ_wp ?_)
            refine EW_cond rfl (fun h => ?_) (fun h => ?_)
            · try simp only [decide_eq_true_eq, decide_eq_false_iff_not, Bool.not_eq_true', Bool.not_eq_false'] at h
              have hN := h
              refine EW_seq ?_
              -- region 37  ref.go:100
              refine EW_region ?_
              refine EL_s rfl rfl rfl (os_struct (cs := [_, _, _]) [] pl25 z25 rfl rfl) ?_
              refine EL_u rfl rfl (ox_store rfl rfl sz25 rfl (by rfl) (.tail (.head .head))) ?_
              refine EL_s rfl rfl rfl (os_assign rfl) ?_
              refine EL_nil ?_
              refine EQ_then (EQ_wp ?_)
              refine EW_ret ?_
              refine EQ_block_ret (EQ_then_ret (?_))
              exact pc_ret2 Try.results11 (rv_agg (cs := [_, _, _]) rfl agg25 (cells_own (own_tail own_head) rfl)) (rv_tmp rfl) hI9 (((((Incl.refl _).skip _).skip _).skip _).skip _) ⟨Vr0, 6, rfl, Vr0_ok _ _, .none hR (hN ▸ hd2)⟩ (.inl rfl)
            · try simp only [decide_eq_true_eq, decide_eq_false_iff_not, Bool.not_eq_true', Bool.not_eq_false'] at h
              have hN := h
              refine EW_seq ?_
              -- region 38  ref.go:101
              refine EW_region ?_
              refine EL_s rfl rfl rfl (os_move rfl) ?_
              refine EL_s rfl rfl rfl (os_assign rfl) ?_
              refine EL_nil ?_
              refine EQ_then (EQ_wp ?_)
              refine EW_cond rfl (fun h => ?_) (fun h => ?_)
              · try simp only [decide_eq_true_eq, decide_eq_false_iff_not, Bool.not_eq_true', Bool.not_eq_false'] at h
                have hT := h
                refine EW_seq ?_
                -- region 39  ref.go:102
                refine EW_region ?_
                refine EL_s rfl rfl rfl (os_struct (cs := [_, _, _]) [] pl25 z25 rfl rfl) ?_
                refine EL_u rfl rfl (ox_store rfl rfl sz25 rfl (by rfl) (.tail (.head .head))) ?_
                refine EL_s rfl rfl rfl (os_assign rfl) ?_
                refine EL_nil ?_
                refine EQ_then (EQ_wp ?_)
                refine EW_ret ?_
                refine EQ_block_ret (EQ_then_ret (?_))
                exact absurd (hN.symm.trans (by assumption : bN = true)) (by decide)
              · try simp only [decide_eq_true_eq, decide_eq_false_iff_not, Bool.not_eq_true', Bool.not_eq_false'] at h
                have hT := h
                refine EW_seq ?_
                -- region 40  ref.go:103
                refine EW_region ?_
                refine EL_s rfl rfl rfl (os_field rfl fl35_3) ?_
                refine EL_s rfl rfl rfl (os_load_one rfl one23 (cells_own (own_tail (own_tail own_head)) rfl)) ?_
                refine EL_s rfl rfl rfl (os_field rfl fl25_2) ?_
                refine EL_s rfl rfl rfl (os_load_one rfl one23 (cells_own (own_tail (own_tail (own_tail own_head))) rfl)) ?_
                refine EL_s rfl rfl rfl (os_lss rfl rfl) ?_
                refine EL_s rfl rfl rfl (os_assign rfl) ?_
                refine EL_nil ?_
                refine EQ_then (EQ_wp ?_)
                refine EW_cond rfl (fun h => ?_) (fun h => ?_)
                · try simp only [decide_eq_true_eq, decide_eq_false_iff_not, Bool.not_eq_true', Bool.not_eq_false'] at h
                  have hs := h
                  refine EW_seq ?_
                  -- region 41  ref.go:104
                  refine EW_region ?_
                  refine EL_s rfl rfl rfl (os_struct (cs := [_, _, _]) [] pl25 z25 rfl rfl) ?_
                  refine EL_u rfl rfl (ox_store rfl rfl sz25 rfl (by rfl) (.tail (.head .head))) ?_
                  refine EL_s rfl rfl rfl (os_assign rfl) ?_
                  refine EL_nil ?_
                  refine EQ_then (EQ_wp ?_)
                  refine EW_ret ?_
                  refine EQ_block_ret (EQ_then_ret (?_))
                  exact absurd (hN.symm.trans (by assumption : bN = true)) (by decide)
                · try simp only [decide_eq_true_eq, decide_eq_false_iff_not, Bool.not_eq_true', Bool.not_eq_false'] at h
                  have hs := h
                  refine EW_skip ?_
                  refine EQ_block_normal ?_
                  refine EQ_then (EQ_wp ?_)
                  refine EW_seq ?_
                  -- region 42  ref.go:106
                  refine EW_region ?_
                  refine EL_s rfl rfl rfl (os_load_agg (cs := [_, _, _]) rfl agg25 (cells_own own_head rfl)) ?_
                  refine EL_u rfl rfl (ox_store rfl rfl sz25 rfl (by rfl) (.tail (.head .head))) ?_
                  refine EL_s rfl rfl rfl (os_assign rfl) ?_
                  refine EL_nil ?_
                  refine EQ_then (EQ_wp ?_)
                  refine EW_ret ?_
                  exact absurd (hN.symm.trans (by assumption : bN = true)) (by decide)


end Go.Proofs.Ytodkbhbbdnjlcaa
