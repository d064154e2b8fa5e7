/- Proved here: the part SY of the proof that the law of this seat returns true for every input; no condition. -/
import Derived.Test.YtodkbhbbdnjlcaaSX
set_option maxRecDepth 20000
set_option linter.unusedVariables false
set_option linter.unusedSimpArgs false
namespace Go.Proofs.Ytodkbhbbdnjlcaa
open Go Go.Gl


theorem ins_perm (D1 D2 R : List PF) (d : PF) : (D1 ++ (d :: D2 ++ R)).Perm (D1 ++ D2 ++ d :: R) := by
  have h1 : (D1 ++ d :: (D2 ++ R)).Perm (d :: (D1 ++ (D2 ++ R))) := List.perm_middle
  have h2 : (D1 ++ D2 ++ d :: R).Perm (d :: (D1 ++ D2 ++ R)) := List.perm_middle
  rw [List.append_assoc D1 D2 R] at h2
  exact h1.trans h2.symm
theorem ins_sorted {D1 D2 : List PF} {d : PF} (h : Sorted (D1 ++ D2)) (h1 : ∀ x ∈ D1, leP x d) (h2 : ∀ y ∈ D2, leP d y) : Sorted (D1 ++ d :: D2) := by
  rw [Sorted, List.pairwise_append] at *
  obtain ⟨a, b, c⟩ := h
  refine ⟨a, List.pairwise_cons.2 ⟨h2, b⟩, fun x hx y hy => ?_⟩
  rcases List.mem_cons.1 hy with rfl | hy
  · exact h1 x hx
  · exact c x hx y hy
theorem Sorted.left {A B : List PF} (h : Sorted (A ++ B)) : Sorted A := (List.pairwise_append.1 h).1
theorem Sorted.right {A B : List PF} (h : Sorted (A ++ B)) : Sorted B := (List.pairwise_append.1 h).2.1
theorem last_le {D E : List PF} {y d : PF} (h : Sorted ((D ++ [y]) ++ E)) (hy : leP y d) : ∀ x ∈ D ++ [y], leP x d := by
  intro x hx
  rcases List.mem_append.1 hx with hx | hx
  · exact leP_trans ((List.pairwise_append.1 h.left).2.2 x hx y (by simp)) hy
  · rw [List.mem_singleton.1 hx]; exact hy
theorem sorted_one (W : List PF) : Sorted (W.take 1) := by cases W <;> simp [Sorted]
theorem take_of {α : Type} {A B : List α} {k : Nat} (h : k = A.length) : (A ++ B).take k = A := by subst h; simp

theorem s_insertion {I : Gh} {L : List Seg} {a : Option Addr} {m c : Nat} {S0 : Seg} {pre W post : List PF} (ho : FOwn pcells 53 I a m c S0 (pre ++ (W ++ (post)))) (lo hi : Int) (g1 : lo = pre.length) (g2 : hi = pre.length + W.length) : PM Try.prog 42 #[.slice a m c, .int .i64 lo, .int .i64 hi, .func (.func 17) #[] #[]] I L S0 fun K S v => ∃ W2, v = .tuple #[] ∧ FOwn pcells 53 K a m c S (pre ++ (W2 ++ (post))) ∧ W2.Perm W ∧ Sorted W2 := by
  refine PM.of (n := 53) Try.func42 rfl Try.ntmps42 rfl fun I0 L0 hI0 hL0 => ?_
  have ho := ho.mono hI0
  have few := ho.few
  have e1 := ho.len
  simp only [List.length_append] at few e1
  refine EW_seq ?_
  -- region 0  zsortanyfunc.go:11
  refine EW_region ?_
  refine EL_s rfl rfl rfl (os_move rfl) ?_
  refine EL_s rfl rfl rfl (os_add_in rfl rfl (IntWalk.i64_in _ (by omega))) ?_
  refine EL_s rfl rfl rfl (os_assign rfl) ?_
  refine EL_nil ?_
  refine EQ_then (EQ_wp ?_)
  refine EW_block ?_
  refine EW_loop (σ := Nat × List PF × Seg) (fun ⟨k, T, S⟩ => [(0, .slice a m c), (1, .int .i64 lo), (2, .int .i64 hi), (3, .func (.func 17) #[] #[]), (8, .int .i64 (lo + (k : Int)))]) (fun ⟨k, T, S⟩ => I0) (fun ⟨k, T, S⟩ => S :: L0) (fun ⟨k, T, S⟩ => FOwn pcells 53 I0 a m c S (pre ++ (T ++ (post))) ∧ T.Perm W ∧ Sorted (T.take k) ∧ 1 ≤ k) (fun ⟨k, T, S⟩ => W.length - k) (1, W, S0) ⟨ho, .refl _, sorted_one W, by decide⟩ (by exact ⟨rfl, rfl, rfl, rfl, rfl, trivial⟩) (fun w h => h) ?_
  rintro ⟨k, T, S⟩ ⟨ho, hP, hs, hk1⟩
  have hlen := hP.length_eq
  have few := ho.few
  have e1 := ho.len
  simp only [List.length_append] at few e1
  refine EW_seq ?_
  refine EW_seq ?_
  -- region 1  zsortanyfunc.go:11
  refine EW_region ?_
  refine EL_s rfl rfl rfl (os_move rfl) ?_
  refine EL_s rfl rfl rfl (os_move rfl) ?_
  refine EL_s rfl rfl rfl (os_lss rfl rfl) ?_
  refine EL_nil ?_
  refine EQ_then (EQ_wp ?_)
  refine EW_cond rfl (fun h => ?_) (fun h => ?_)
  · try simp only [decide_eq_true_eq, decide_eq_false_iff_not, Bool.not_eq_true', Bool.not_eq_false'] at h
    refine EW_skip ?_
    refine EQ_then (EQ_wp ?_)
    refine EW_seq ?_
    refine EW_block ?_
    refine EW_seq ?_
    obtain ⟨D, R0, rfl, hk⟩ := split_at (l := T) (k := k) (by omega)
    obtain ⟨d, R, rfl⟩ := cons_of (l := R0) (by simp at hlen; omega)
    rw [take_of hk.symm] at hs
    simp only [List.length_append, List.length_cons] at few e1 hlen
    -- region 3  zsortanyfunc.go:12
    refine EW_region ?_
    refine EL_s rfl rfl rfl (os_move rfl) ?_
    refine EL_s rfl rfl rfl (os_assign rfl) ?_
    refine EL_nil ?_
    refine EQ_then (EQ_wp ?_)
    refine EW_block ?_
    refine EW_loop (σ := Nat × List PF × List PF × Seg) (fun ⟨j, D1, D2, S⟩ => [(0, .slice a m c), (1, .int .i64 lo), (2, .int .i64 hi), (3, .func (.func 17) #[] #[]), (8, .int .i64 (lo + (k : Int))), (9, .int .i64 (lo + (j : Int)))]) (fun ⟨j, D1, D2, S⟩ => I0) (fun ⟨j, D1, D2, S⟩ => S :: L0) (fun ⟨j, D1, D2, S⟩ => FOwn pcells 53 I0 a m c S (pre ++ (D1 ++ ((d :: D2) ++ (R ++ (post))))) ∧ D1 ++ D2 = D ∧ D1.length = j ∧ ∀ y ∈ D2, leP d y) (fun ⟨j, D1, D2, S⟩ => j) (k, D, [], S) ⟨by simpa using ho, by simp, hk, fun y hy => by cases hy⟩ (by exact ⟨rfl, rfl, rfl, rfl, rfl, rfl, trivial⟩) (fun w h => h) ?_
    rintro ⟨j, D1, D2, S⟩ ⟨ho, hD, h1, hdy⟩
    have few := ho.few
    have e1 := ho.len
    simp only [List.length_append, List.length_cons] at few e1
    refine EW_seq ?_
    refine EW_seq ?_
    -- region 4 DRAWN  zsortanyfunc.go:12
    refine EW_draw [] [.s, .s, .s, .s, .s, .s, .s, .s, .s, .s, .s, .s, .s, .s, .s, .s, .s] [0, 1, 2, 3, 4, 5, 6, 7, 8, 9, 10, 11, 12, 13, 14, 15, 16] mixed (by kernel_rfl) (by kernel_rfl) rfl ?_
    refine EP_s rfl rfl rfl rfl rfl (by exact (os_move rfl)) ?_
    refine EP_s rfl rfl rfl rfl rfl (by exact (os_move rfl)) ?_
    refine EP_s rfl rfl rfl rfl rfl (by exact (os_gtr rfl rfl)) ?_
    refine EP_s rfl rfl rfl rfl rfl (by exact (os_move rfl)) ?_
    refine EP_split (t := 21) rfl (fun h => ?_) (fun h => ?_)
    · try simp only [decide_eq_true_eq, decide_eq_false_iff_not, Bool.not_eq_true', Bool.not_eq_false'] at h
      refine EP_s_yes rfl rfl rfl rfl rfl rfl rfl (by exact (os_move rfl)) ?_
      refine EP_s_yes rfl rfl rfl rfl rfl rfl rfl (by exact (os_move rfl)) ?_
      refine EP_s_yes rfl rfl rfl rfl rfl rfl rfl (by exact (os_move rfl)) ?_
      obtain ⟨y, D3, rfl⟩ := snoc_of (l := D1) (by omega)
      simp only [List.length_append, List.length_cons, List.length_nil] at h1 few e1
      have hc : pre ++ ((D3 ++ [y]) ++ ((d :: D2) ++ (R ++ (post)))) = (pre ++ D3) ++ y :: ([] ++ d :: (D2 ++ (R ++ post))) := by simp
      have i1 : pre.length + (j - 1) = (pre ++ D3).length := by simp; omega
      have i2 : pre.length + j = (pre ++ D3).length + 1 + ([] : List PF).length := by simp; omega
      have hy := get_at hc i1
      have hd := get_at2 hc i2
      refine EP_s_yes rfl rfl rfl rfl rfl rfl rfl (by exact (os_at ((pre.length + j)) rfl rfl (by omega) sl28 (by omega) ((ho.row' (L := L0)).some (by omega)))) ?_
      refine EP_s_yes rfl rfl rfl rfl rfl rfl rfl (by exact (os_load_agg (cs := pcells d) rfl agg53 (ho.get hd))) ?_
      refine EP_s_yes rfl rfl rfl rfl rfl rfl rfl (by exact (os_move rfl)) ?_
      refine EP_s_yes rfl rfl rfl rfl rfl rfl rfl (by exact (os_move rfl)) ?_
      refine EP_s_yes rfl rfl rfl rfl rfl rfl rfl (by exact (os_sub_in rfl rfl (IntWalk.i64_in _ (by omega)))) ?_
      refine EP_s_yes rfl rfl rfl rfl rfl rfl rfl (by exact (os_at ((pre.length + (j - 1))) rfl rfl (by omega) sl28 (by omega) ((ho.row' (L := L0)).some (by omega)))) ?_
      refine EP_s_yes rfl rfl rfl rfl rfl rfl rfl (by exact (os_load_agg (cs := pcells y) rfl agg53 (ho.get hy))) ?_
      refine EP_s_yes rfl rfl rfl rfl rfl rfl rfl (by exact (os_callv (fs := []) (vs := [_, _]) rfl body17 rfl (m_compare (ho.okAt hd) (ho.okAt hy)))) ?_
      refine EP_s_yes rfl rfl rfl rfl rfl rfl rfl (by exact (os_lss rfl rfl)) ?_
      refine EP_s rfl rfl rfl rfl rfl (by exact (os_pick_t rfl rfl)) ?_
      refine EP_nil ?_
      refine EQ_then (EQ_wp ?_)
      refine EW_cond rfl (fun h => ?_) (fun h => ?_)
      · try simp only [decide_eq_true_eq, decide_eq_false_iff_not, Bool.not_eq_true', Bool.not_eq_false'] at h
        have h4 := h
        refine EW_skip ?_
        refine EQ_then (EQ_wp ?_)
        refine EW_seq ?_
        refine EW_block ?_
        -- region 6 DRAWN  zsortanyfunc.go:13
        refine EW_draw ([]) [.s, .s, .r, .r, .r, .s, .s, .s, .s, .s, .s, .s, .s, .s, .s, .y, .s, .x] [0, 1, 2, 3, 4, 5, 6, 7, 8, 9, 10, 11, 12, 13, 14, 15, 16, 17] mixed (by kernel_rfl) (by kernel_rfl) rfl ?_
        refine EP_s rfl rfl rfl rfl rfl (by exact (os_move rfl)) ?_
        refine EP_s rfl rfl rfl rfl rfl (by exact (os_move rfl)) ?_
        refine EP_r rfl rfl rfl rfl rfl (Incl.nil _) (by exact (os_move rfl)) ?_
        refine EP_r rfl rfl rfl rfl rfl (Incl.nil _) (by exact (os_move rfl)) ?_
        refine EP_r rfl rfl rfl rfl rfl (Incl.nil _) (by exact (os_sub_in rfl rfl (IntWalk.i64_in _ (by omega)))) ?_
        refine EP_s rfl rfl rfl rfl rfl (by exact (os_move rfl)) ?_
        refine EP_s rfl rfl rfl rfl rfl (by exact (os_move rfl)) ?_
        refine EP_s rfl rfl rfl rfl rfl (by exact (os_sub_in rfl rfl (IntWalk.i64_in _ (by omega)))) ?_
        refine EP_s rfl rfl rfl rfl rfl (by exact (os_at ((pre.length + (j - 1))) rfl rfl (by omega) sl28 (by omega) ((ho.row' (L := L0)).some (by omega)))) ?_
        refine EP_s rfl rfl rfl rfl rfl (by exact (os_load_agg (cs := pcells y) rfl agg53 (ho.get hy))) ?_
        refine EP_s rfl rfl rfl rfl rfl (by exact (os_move rfl)) ?_
        refine EP_s rfl rfl rfl rfl rfl (by exact (os_move rfl)) ?_
        refine EP_s rfl rfl rfl rfl rfl (by exact (os_at ((pre.length + j)) rfl rfl (by omega) sl28 (by omega) ((ho.row' (L := L0)).some (by omega)))) ?_
        refine EP_s rfl rfl rfl rfl rfl (by exact (os_load_agg (cs := pcells d) rfl agg53 (ho.get hd))) ?_
        refine EP_s rfl rfl rfl rfl rfl (by exact (os_at ((pre.length + j)) rfl rfl (by omega) sl28 (by omega) ((ho.row' (L := L0)).some (by omega)))) ?_
        refine EP_kz rfl rfl rfl rfl (by exact (ox_store_row rfl rfl sz53 (by rfl) (by rfl) ho.row (by omega) pick0)) (fun _ _ _ => Incl.nil _) ?_
        rintro L4 v4 ⟨S4, rfl, ho4⟩
        refine EP_s rfl rfl rfl rfl rfl (by exact (os_at ((pre.length + (j - 1))) rfl rfl (by omega) sl28 (by omega) ((ho.row' (L := L0)).some (by omega)))) ?_
        refine EP_z rfl rfl rfl rfl (by exact (ox_store_row rfl rfl sz53 (by rfl) (by rfl) ho4 (by omega) pick0)) ?_
        rintro L5 v5 ⟨S5, rfl, ho5⟩
        have ho6 := FOwn.swap (x := d) (y := y) ho ho5 (List.mem_of_getElem? hd) (List.mem_of_getElem? hy) ((swap_at' hc i1 i2).trans (by simp : _ = pre ++ (D3 ++ ((d :: y :: D2) ++ (R ++ (post))))))
        refine EP_nil ?_
        refine EQ_block_normal ?_
        refine EQ_then (EQ_wp ?_)
        -- region 5  zsortanyfunc.go:12
        refine EW_region ?_
        refine EL_s rfl rfl rfl (os_move rfl) ?_
        refine EL_s rfl rfl rfl (os_sub_in rfl rfl (IntWalk.i64_in _ (by omega))) ?_
        refine EL_s rfl rfl rfl (os_assign rfl) ?_
        refine EL_nil ?_
        refine EQ_round (j - 1, D3, y :: D2, S5) ?_ ?_ ?_ ?_
        · exact ⟨ho6, by rw [← hD]; simp, by omega, fun z hz => (List.mem_cons.1 hz).elim (fun e => e ▸ leP_of_lt h4) (hdy z)⟩
        · exact (by dsimp only; omega)
        · exact ⟨rfl, rfl, rfl, rfl, rfl, (congrArg (fun z => some (Value.int .i64 z)) (by omega)), trivial⟩
        · exact fun w h => h
      · try simp only [decide_eq_true_eq, decide_eq_false_iff_not, Bool.not_eq_true', Bool.not_eq_false'] at h
        have h4 := h
        refine EW_exit ?_
        refine EQ_then_exit (EQ_then_exit (EQ_block_exit (?_)))
        refine EQ_block_normal ?_
        refine EQ_then (EQ_wp ?_)
        -- region 2  zsortanyfunc.go:11
        refine EW_region ?_
        refine EL_s rfl rfl rfl (os_move rfl) ?_
        refine EL_s rfl rfl rfl (os_add_in rfl rfl (IntWalk.i64_in _ (by omega))) ?_
        refine EL_s rfl rfl rfl (os_assign rfl) ?_
        refine EL_nil ?_
        refine EQ_round (k + 1, (D3 ++ [y]) ++ (d :: D2 ++ R), S) ?_ ?_ ?_ ?_
        · exact ⟨ho.to (by simp), (by rw [← hD] at hP; exact (ins_perm _ _ _ _).trans hP), (by rw [show (D3 ++ [y]) ++ (d :: D2 ++ R) = ((D3 ++ [y]) ++ d :: D2) ++ R from by simp, take_of (by rw [← hD] at hk; simp at hk ⊢; omega)]; rw [← hD] at hs; exact ins_sorted hs (last_le hs (leP_of_not h4)) hdy), by omega⟩
        · exact (by dsimp only; omega)
        · exact ⟨rfl, rfl, rfl, rfl, (congrArg (fun z => some (Value.int .i64 z)) (by omega)), trivial⟩
        · exact fun w h => h
    · try simp only [decide_eq_true_eq, decide_eq_false_iff_not, Bool.not_eq_true', Bool.not_eq_false'] at h
      refine EP_no rfl rfl rfl rfl rfl rfl rfl ?_
      refine EP_no rfl rfl rfl rfl rfl rfl rfl ?_
      refine EP_no rfl rfl rfl rfl rfl rfl rfl ?_
      refine EP_no rfl rfl rfl rfl rfl rfl rfl ?_
      refine EP_no rfl rfl rfl rfl rfl rfl rfl ?_
      refine EP_no rfl rfl rfl rfl rfl rfl rfl ?_
      refine EP_no rfl rfl rfl rfl rfl rfl rfl ?_
      refine EP_no rfl rfl rfl rfl rfl rfl rfl ?_
      refine EP_no rfl rfl rfl rfl rfl rfl rfl ?_
      refine EP_no rfl rfl rfl rfl rfl rfl rfl ?_
      refine EP_no rfl rfl rfl rfl rfl rfl rfl ?_
      refine EP_no rfl rfl rfl rfl rfl rfl rfl ?_
      refine EP_s rfl rfl rfl rfl rfl (by exact (os_pick_f rfl rfl)) ?_
      refine EP_nil ?_
      refine EQ_then (EQ_wp ?_)
      refine EW_false rfl ?_
      refine EW_exit ?_
      refine EQ_then_exit (EQ_then_exit (EQ_block_exit (?_)))
      refine EQ_block_normal ?_
      refine EQ_then (EQ_wp ?_)
      -- region 2  zsortanyfunc.go:11
      refine EW_region ?_
      refine EL_s rfl rfl rfl (os_move rfl) ?_
      refine EL_s rfl rfl rfl (os_add_in rfl rfl (IntWalk.i64_in _ (by omega))) ?_
      refine EL_s rfl rfl rfl (os_assign rfl) ?_
      refine EL_nil ?_
      obtain rfl : D1 = [] := List.eq_nil_of_length_eq_zero (by omega)
      refine EQ_round (k + 1, [] ++ (d :: D2 ++ R), S) ?_ ?_ ?_ ?_
      · exact ⟨ho.to (by simp), (by rw [← hD] at hP; exact (ins_perm _ _ _ _).trans hP), (by rw [show [] ++ (d :: D2 ++ R) = ([] ++ d :: D2) ++ R from by simp, take_of (by rw [← hD] at hk; simp at hk ⊢; omega)]; rw [← hD] at hs; exact ins_sorted hs (fun x hx => (by cases hx)) hdy), by omega⟩
      · exact (by dsimp only; omega)
      · exact ⟨rfl, rfl, rfl, rfl, (congrArg (fun z => some (Value.int .i64 z)) (by omega)), trivial⟩
      · exact fun w h => h
  · try simp only [decide_eq_true_eq, decide_eq_false_iff_not, Bool.not_eq_true', Bool.not_eq_false'] at h
    refine EW_exit ?_
    refine EQ_then_exit (EQ_then_exit (EQ_block_exit (?_)))
    exact px_ret0 _ Try.results42  (.refl _) ((Incl.refl _).cons _) ⟨T, rfl, ho, hP, by rw [List.take_of_length_le (by omega)] at hs; exact hs⟩ (.inr rfl)


end Go.Proofs.Ytodkbhbbdnjlcaa
