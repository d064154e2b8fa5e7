/- Proved here: the part SN of the proof that the law of this seat returns true for every input; no condition. -/
import Derived.Test.YtodkbhbbdnjlcaaSM
set_option maxRecDepth 20000
set_option linter.unusedVariables false
set_option linter.unusedSimpArgs false
namespace Go.Proofs.Ytodkbhbbdnjlcaa
open Go Go.Gl

theorem s_merge_step (N : Nat) (ih : MergeC N) {I : Gh} {L : List Seg} {a : Option Addr} {m c : Nat} {S0 : Seg} {pre A B post : List PF} (ho : FOwn pcells 53 I a m c S0 (pre ++ (A ++ (B ++ (post))))) (lo mid hi : Int) (g1 : lo = pre.length) (g2 : mid = pre.length + A.length) (g3 : hi = pre.length + A.length + B.length) (gA : 0 < A.length) (gB : 0 < B.length) (sA : Sorted A) (sB : Sorted B) (gN : A.length + B.length ≤ N + 1) : PM Try.prog 43 #[.slice a m c, .int .i64 lo, .int .i64 mid, .int .i64 hi, .func (.func 17) #[] #[]] I L S0 fun K S v => ∃ W, v = .tuple #[] ∧ FOwn pcells 53 K a m c S (pre ++ (W ++ (post))) ∧ W.Perm (A ++ B) ∧ Sorted W := by
  refine PM.of (n := 220) Try.func43 rfl Try.ntmps43 rfl fun I0 L0 hI0 hL0 => ?_
  have ho := ho.mono hI0
  have few := ho.few
  have e1 := ho.len
  simp only [List.length_append] at few e1
  refine EW_seq ?_
  refine EW_seq ?_
  -- region 0  zsortanyfunc.go:382
  refine EW_region ?_
  refine EL_s rfl rfl rfl (os_move rfl) ?_
  refine EL_s rfl rfl rfl (os_move rfl) ?_
  refine EL_s rfl rfl rfl (os_sub_in rfl rfl (IntWalk.i64_in _ (by omega))) ?_
  refine EL_s rfl rfl rfl (os_eql rfl rfl) ?_
  refine EL_nil ?_
  refine EQ_then (EQ_wp ?_)
  refine EW_cond rfl (fun h => ?_) (fun h => ?_)
  · try simp only [decide_eq_true_eq, decide_eq_false_iff_not, Bool.not_eq_true', Bool.not_eq_false'] at h
    obtain ⟨d, A0, rfl⟩ := cons_of gA
    obtain rfl : A0 = [] := List.eq_nil_of_length_eq_zero (by simp at g2; omega)
    simp only [List.length_append, List.length_cons, List.length_nil] at few e1 g2 g3
    have hcd : pre ++ ([d] ++ (B ++ (post))) = pre ++ d :: (B ++ post) := by simp
    have hd := get_at hcd rfl
    refine EW_seq ?_
    -- region 1  zsortanyfunc.go:386
    refine EW_region ?_
    refine EL_s rfl rfl rfl (os_move rfl) ?_
    refine EL_s rfl rfl rfl (os_assign rfl) ?_
    refine EL_nil ?_
    refine EQ_then (EQ_wp ?_)
    refine EW_seq ?_
    -- region 2  zsortanyfunc.go:387
    refine EW_region ?_
    refine EL_s rfl rfl rfl (os_move rfl) ?_
    refine EL_s rfl rfl rfl (os_assign rfl) ?_
    refine EL_nil ?_
    refine EQ_then (EQ_wp ?_)
    refine EW_seq ?_
    refine EW_block ?_
    refine EW_loop (σ := Nat × Nat) (fun ⟨i, j⟩ => [(0, .slice a m c), (1, .int .i64 lo), (2, .int .i64 mid), (3, .int .i64 hi), (4, .func (.func 17) #[] #[]), (10, .int .i64 (mid + (i : Int))), (11, .int .i64 (mid + (j : Int)))]) (fun ⟨i, j⟩ => I0) (fun ⟨i, j⟩ => S0 :: L0) (fun ⟨i, j⟩ => i ≤ j ∧ j ≤ B.length ∧ (∀ y, 0 < i → B[i - 1]? = some y → leP y d) ∧ (∀ y, B[j]? = some y → leP d y)) (fun ⟨i, j⟩ => j - i) (0, B.length) ⟨Nat.zero_le _, Nat.le_refl _, fun y h => absurd h (Nat.lt_irrefl 0), fun y h => absurd (List.getElem?_eq_some_iff.1 h).1 (Nat.lt_irrefl _)⟩ (by exact ⟨rfl, rfl, rfl, rfl, rfl, (congrArg (fun z => some (Value.int .i64 z)) (by omega)), (congrArg (fun z => some (Value.int .i64 z)) (by omega)), trivial⟩) (fun w h => h) ?_
    rintro ⟨i, j⟩ ⟨h1, h2, h3, h5⟩
    refine EW_seq ?_
    refine EW_seq ?_
    -- region 3  zsortanyfunc.go:388
    refine EW_region ?_
    refine EL_s rfl rfl rfl (os_move rfl) ?_
    refine EL_s rfl rfl rfl (os_move rfl) ?_
    refine EL_s rfl rfl rfl (os_lss rfl rfl) ?_
    refine EL_nil ?_
    refine EQ_then (EQ_wp ?_)
    refine EW_cond rfl (fun h => ?_) (fun h => ?_)
    · try simp only [decide_eq_true_eq, decide_eq_false_iff_not, Bool.not_eq_true', Bool.not_eq_false'] at h
      refine EW_skip ?_
      refine EQ_then (EQ_wp ?_)
      refine EW_block ?_
      refine EW_seq ?_
      obtain ⟨y, hyB⟩ := get_some (l := B) (k := (i + j) / 2) (by omega)
      have hy : (pre ++ ([d] ++ (B ++ (post))))[pre.length + 1 + (i + j) / 2]? = some y := get_in (P := pre ++ [d]) (Q := post) (by simp) hyB (by simp)
      -- region 4  zsortanyfunc.go:389
      refine EW_region ?_
      refine EL_s rfl rfl rfl (os_move rfl) ?_
      refine EL_s rfl rfl rfl (os_move rfl) ?_
      refine EL_s rfl rfl rfl (os_add_in rfl rfl (IntWalk.i64_in _ (by omega))) ?_
      refine EL_s rfl rfl rfl (os_conv_in rfl ⟨_, int3⟩ int82 (IntWalk.u64_in _ (by omega))) ?_
      refine EL_s rfl rfl rfl (os_half rfl rfl (by decide) (by omega)) ?_
      refine EL_s rfl rfl rfl (os_conv_in rfl ⟨_, int82⟩ int3 (IntWalk.i64_in _ (by omega))) ?_
      refine EL_s rfl rfl rfl (os_assign rfl) ?_
      refine EL_nil ?_
      refine EQ_then (EQ_wp ?_)
      refine EW_seq ?_
      -- region 5 DRAWN  zsortanyfunc.go:390
      refine EW_draw [] [.s, .s, .s, .s, .s, .s, .s, .s, .s, .s, .s] [0, 1, 2, 3, 4, 5, 6, 7, 8, 9, 10] mixed (by kernel_rfl) (by kernel_rfl) rfl ?_
      refine EP_s rfl rfl rfl rfl rfl (by exact (os_move rfl)) ?_
      refine EP_s rfl rfl rfl rfl rfl (by exact (os_move rfl)) ?_
      refine EP_s rfl rfl rfl rfl rfl (by exact (os_move rfl)) ?_
      refine EP_s rfl rfl rfl rfl rfl (by exact (os_at ((pre.length + 1 + (i + j) / 2)) rfl rfl (by omega) sl28 (by omega) ((ho.row' (L := L0)).some (by omega)))) ?_
      refine EP_s rfl rfl rfl rfl rfl (by exact (os_load_agg (cs := pcells y) rfl agg53 (ho.get hy))) ?_
      refine EP_s rfl rfl rfl rfl rfl (by exact (os_move rfl)) ?_
      refine EP_s rfl rfl rfl rfl rfl (by exact (os_move rfl)) ?_
      refine EP_s rfl rfl rfl rfl rfl (by exact (os_at (pre.length) rfl rfl (by omega) sl28 (by omega) ((ho.row' (L := L0)).some (by omega)))) ?_
      refine EP_s rfl rfl rfl rfl rfl (by exact (os_load_agg (cs := pcells d) rfl agg53 (ho.get hd))) ?_
      refine EP_s rfl rfl rfl rfl rfl (by exact (os_callv (fs := []) (vs := [_, _]) rfl body17 rfl (m_compare (ho.okAt hy) (ho.okAt hd)))) ?_
      refine EP_s rfl rfl rfl rfl rfl (by exact (os_lss rfl rfl)) ?_
      refine EP_nil ?_
      refine EQ_then (EQ_wp ?_)
      refine EW_cond rfl (fun h => ?_) (fun h => ?_)
      · try simp only [decide_eq_true_eq, decide_eq_false_iff_not, Bool.not_eq_true', Bool.not_eq_false'] at h
        have h4 := leP_of_lt h
        -- region 6  zsortanyfunc.go:391
        refine EW_region ?_
        refine EL_s rfl rfl rfl (os_move rfl) ?_
        refine EL_s rfl rfl rfl (os_add_in rfl rfl (IntWalk.i64_in _ (by omega))) ?_
        refine EL_s rfl rfl rfl (os_assign rfl) ?_
        refine EL_nil ?_
        refine EQ_block_normal ?_
        refine EQ_round ((i + j) / 2 + 1, j) ?_ ?_ ?_ ?_
        · exact ⟨by omega, h2, (fun z _ hz => by rw [Nat.add_sub_cancel, hyB] at hz; cases hz; exact h4), h5⟩
        · exact (by dsimp only; omega)
        · exact ⟨rfl, rfl, rfl, rfl, rfl, (congrArg (fun z => some (Value.int .i64 z)) (by omega)), rfl, trivial⟩
        · exact fun w h => h
      · try simp only [decide_eq_true_eq, decide_eq_false_iff_not, Bool.not_eq_true', Bool.not_eq_false'] at h
        have h4 := leP_of_not h
        -- region 7  zsortanyfunc.go:393
        refine EW_region ?_
        refine EL_s rfl rfl rfl (os_move rfl) ?_
        refine EL_s rfl rfl rfl (os_assign rfl) ?_
        refine EL_nil ?_
        refine EQ_block_normal ?_
        refine EQ_round (i, (i + j) / 2) ?_ ?_ ?_ ?_
        · exact ⟨by omega, by omega, h3, (fun z hz => by rw [hyB] at hz; cases hz; exact h4)⟩
        · exact (by dsimp only; omega)
        · exact ⟨rfl, rfl, rfl, rfl, rfl, rfl, (congrArg (fun z => some (Value.int .i64 z)) (by omega)), trivial⟩
        · exact fun w h => h
    · try simp only [decide_eq_true_eq, decide_eq_false_iff_not, Bool.not_eq_true', Bool.not_eq_false'] at h
      refine EW_exit ?_
      refine EQ_then_exit (EQ_then_exit (EQ_block_exit (?_)))
      refine EQ_then (EQ_wp ?_)
      refine EW_seq ?_
      refine EW_seq ?_
      -- region 8  zsortanyfunc.go:397
      refine EW_region ?_
      refine EL_s rfl rfl rfl (os_move rfl) ?_
      refine EL_s rfl rfl rfl (os_assign rfl) ?_
      refine EL_nil ?_
      refine EQ_then (EQ_wp ?_)
      refine EW_block ?_
      refine EW_loop (σ := Nat × List PF × List PF × Seg) (fun ⟨k, B1, B2, S⟩ => [(0, .slice a m c), (10, .int .i64 (mid + (i : Int))), (13, .int .i64 (lo + (k : Int)))]) (fun ⟨k, B1, B2, S⟩ => I0) (fun ⟨k, B1, B2, S⟩ => S :: L0) (fun ⟨k, B1, B2, S⟩ => FOwn pcells 53 I0 a m c S (pre ++ (B1 ++ ((d :: B2) ++ (post)))) ∧ B1 ++ B2 = B ∧ B1.length = k ∧ k ≤ i) (fun ⟨k, B1, B2, S⟩ => i - k) (0, [], B, S0) ⟨by simpa using ho, rfl, rfl, Nat.zero_le _⟩ (by exact ⟨rfl, rfl, (congrArg (fun z => some (Value.int .i64 z)) (by omega)), trivial⟩) (fun w h => h) ?_
      rintro ⟨k, B1, B2, S⟩ ⟨ho, hB, b1, b2⟩
      have lB := congrArg List.length hB
      rw [List.length_append] at lB
      have few := ho.few
      have e1 := ho.len
      simp only [List.length_append, List.length_cons, List.length_nil] at few e1
      refine EW_seq ?_
      refine EW_seq ?_
      -- region 9  zsortanyfunc.go:397
      refine EW_region ?_
      refine EL_s rfl rfl rfl (os_move rfl) ?_
      refine EL_s rfl rfl rfl (os_move rfl) ?_
      refine EL_s rfl rfl rfl (os_sub_in rfl rfl (IntWalk.i64_in _ (by omega))) ?_
      refine EL_s rfl rfl rfl (os_lss rfl rfl) ?_
      refine EL_nil ?_
      refine EQ_then (EQ_wp ?_)
      refine EW_cond rfl (fun h => ?_) (fun h => ?_)
      · try simp only [decide_eq_true_eq, decide_eq_false_iff_not, Bool.not_eq_true', Bool.not_eq_false'] at h
        refine EW_skip ?_
        refine EQ_then (EQ_wp ?_)
        refine EW_seq ?_
        refine EW_block ?_
        obtain ⟨y, B3, rfl⟩ := cons_of (l := B2) (by omega)
        have hc : pre ++ (B1 ++ ((d :: (y :: B3)) ++ (post))) = (pre ++ B1) ++ d :: ([] ++ y :: (B3 ++ post)) := by simp
        have i1 : pre.length + k = (pre ++ B1).length := by simp [b1]
        have i2 : pre.length + (k + 1) = (pre ++ B1).length + 1 + ([] : List PF).length := by simp; omega
        have hd := get_at hc i1
        have hy := get_at2 hc i2
        simp only [List.length_cons] at few e1 lB
        -- region 11 DRAWN  zsortanyfunc.go:398
        refine EW_draw ([]) [.s, .s, .r, .r, .r, .s, .s, .s, .s, .s, .s, .s, .s, .s, .s, .y, .s, .x] [0, 1, 2, 3, 4, 5, 6, 7, 8, 9, 10, 11, 12, 13, 14, 15, 16, 17] mixed (by kernel_rfl) (by kernel_rfl) rfl ?_
        refine EP_s rfl rfl rfl rfl rfl (by exact (os_move rfl)) ?_
        refine EP_s rfl rfl rfl rfl rfl (by exact (os_move rfl)) ?_
        refine EP_r rfl rfl rfl rfl rfl (Incl.nil _) (by exact (os_move rfl)) ?_
        refine EP_r rfl rfl rfl rfl rfl (Incl.nil _) (by exact (os_move rfl)) ?_
        refine EP_r rfl rfl rfl rfl rfl (Incl.nil _) (by exact (os_add_in rfl rfl (IntWalk.i64_in _ (by omega)))) ?_
        refine EP_s rfl rfl rfl rfl rfl (by exact (os_move rfl)) ?_
        refine EP_s rfl rfl rfl rfl rfl (by exact (os_move rfl)) ?_
        refine EP_s rfl rfl rfl rfl rfl (by exact (os_add_in rfl rfl (IntWalk.i64_in _ (by omega)))) ?_
        refine EP_s rfl rfl rfl rfl rfl (by exact (os_at ((pre.length + (k + 1))) rfl rfl (by omega) sl28 (by omega) ((ho.row' (L := L0)).some (by omega)))) ?_
        refine EP_s rfl rfl rfl rfl rfl (by exact (os_load_agg (cs := pcells y) rfl agg53 (ho.get hy))) ?_
        refine EP_s rfl rfl rfl rfl rfl (by exact (os_move rfl)) ?_
        refine EP_s rfl rfl rfl rfl rfl (by exact (os_move rfl)) ?_
        refine EP_s rfl rfl rfl rfl rfl (by exact (os_at ((pre.length + k)) rfl rfl (by omega) sl28 (by omega) ((ho.row' (L := L0)).some (by omega)))) ?_
        refine EP_s rfl rfl rfl rfl rfl (by exact (os_load_agg (cs := pcells d) rfl agg53 (ho.get hd))) ?_
        refine EP_s rfl rfl rfl rfl rfl (by exact (os_at ((pre.length + k)) rfl rfl (by omega) sl28 (by omega) ((ho.row' (L := L0)).some (by omega)))) ?_
        refine EP_kz rfl rfl rfl rfl (by exact (ox_store_row rfl rfl sz53 (by rfl) (by rfl) ho.row (by omega) pick0)) (fun _ _ _ => Incl.nil _) ?_
        rintro L4 v4 ⟨S4, rfl, ho4⟩
        refine EP_s rfl rfl rfl rfl rfl (by exact (os_at ((pre.length + (k + 1))) rfl rfl (by omega) sl28 (by omega) ((ho.row' (L := L0)).some (by omega)))) ?_
        refine EP_z rfl rfl rfl rfl (by exact (ox_store_row rfl rfl sz53 (by rfl) (by rfl) ho4 (by omega) pick0)) ?_
        rintro L5 v5 ⟨S5, rfl, ho5⟩
        have ho6 := FOwn.swap (x := d) (y := y) ho ho5 (List.mem_of_getElem? hd) (List.mem_of_getElem? hy) ((swap_at hc i1 i2).trans (by simp : _ = pre ++ ((B1 ++ [y]) ++ ((d :: B3) ++ (post)))))
        refine EP_nil ?_
        refine EQ_block_normal ?_
        refine EQ_then (EQ_wp ?_)
        -- region 10  zsortanyfunc.go:397
        refine EW_region ?_
        refine EL_s rfl rfl rfl (os_move rfl) ?_
        refine EL_s rfl rfl rfl (os_add_in rfl rfl (IntWalk.i64_in _ (by omega))) ?_
        refine EL_s rfl rfl rfl (os_assign rfl) ?_
        refine EL_nil ?_
        refine EQ_round (k + 1, B1 ++ [y], B3, S5) ?_ ?_ ?_ ?_
        · exact ⟨ho6, by rw [← hB]; simp, by simp [b1], by omega⟩
        · exact (by dsimp only; omega)
        · exact ⟨rfl, rfl, (congrArg (fun z => some (Value.int .i64 z)) (by omega)), trivial⟩
        · exact fun w h => h
      · try simp only [decide_eq_true_eq, decide_eq_false_iff_not, Bool.not_eq_true', Bool.not_eq_false'] at h
        refine EW_exit ?_
        refine EQ_then_exit (EQ_then_exit (EQ_block_exit (?_)))
        refine EQ_then (EQ_wp ?_)
        refine EW_ret ?_
        refine EQ_then_ret (?_)
        have hi : i = j := by omega
        subst hi
        have hk : k = i := by omega
        subst hk
        have hl := ins_law sB hB (by rw [b1]; exact h3) (by rw [b1]; exact h5)
        exact px_ret0 _ Try.results43  (.refl _) ((Incl.refl _).cons _) ⟨B1 ++ d :: B2, rfl, ho.to (by simp), hl.2, hl.1⟩ (.inl rfl)
  · try simp only [decide_eq_true_eq, decide_eq_false_iff_not, Bool.not_eq_true', Bool.not_eq_false'] at h
    have nA := h
    refine EW_skip ?_
    refine EQ_then (EQ_wp ?_)
    refine EW_seq ?_
    refine EW_seq ?_
    -- region 12  zsortanyfunc.go:406
    refine EW_region ?_
    refine EL_s rfl rfl rfl (os_move rfl) ?_
    refine EL_s rfl rfl rfl (os_move rfl) ?_
    refine EL_s rfl rfl rfl (os_sub_in rfl rfl (IntWalk.i64_in _ (by omega))) ?_
    refine EL_s rfl rfl rfl (os_eql rfl rfl) ?_
    refine EL_nil ?_
    refine EQ_then (EQ_wp ?_)
    refine EW_cond rfl (fun h => ?_) (fun h => ?_)
    · try simp only [decide_eq_true_eq, decide_eq_false_iff_not, Bool.not_eq_true', Bool.not_eq_false'] at h
      obtain ⟨d, B0, rfl⟩ := cons_of gB
      obtain rfl : B0 = [] := List.eq_nil_of_length_eq_zero (by simp at g3; omega)
      simp only [List.length_append, List.length_cons, List.length_nil] at few e1 g2 g3
      have hcd : pre ++ (A ++ ([d] ++ (post))) = (pre ++ A) ++ d :: post := by simp
      have hd := get_at hcd (i := pre.length + A.length) (by simp)
      refine EW_seq ?_
      -- region 13  zsortanyfunc.go:410
      refine EW_region ?_
      refine EL_s rfl rfl rfl (os_move rfl) ?_
      refine EL_s rfl rfl rfl (os_assign rfl) ?_
      refine EL_nil ?_
      refine EQ_then (EQ_wp ?_)
      refine EW_seq ?_
      -- region 14  zsortanyfunc.go:411
      refine EW_region ?_
      refine EL_s rfl rfl rfl (os_move rfl) ?_
      refine EL_s rfl rfl rfl (os_assign rfl) ?_
      refine EL_nil ?_
      refine EQ_then (EQ_wp ?_)
      refine EW_seq ?_
      refine EW_block ?_
      refine EW_loop (σ := Nat × Nat) (fun ⟨i, j⟩ => [(0, .slice a m c), (1, .int .i64 lo), (2, .int .i64 mid), (3, .int .i64 hi), (4, .func (.func 17) #[] #[]), (14, .int .i64 (lo + (i : Int))), (15, .int .i64 (lo + (j : Int)))]) (fun ⟨i, j⟩ => I0) (fun ⟨i, j⟩ => S0 :: L0) (fun ⟨i, j⟩ => i ≤ j ∧ j ≤ A.length ∧ (∀ y, 0 < i → A[i - 1]? = some y → leP y d) ∧ (∀ y, A[j]? = some y → leP d y)) (fun ⟨i, j⟩ => j - i) (0, A.length) ⟨Nat.zero_le _, Nat.le_refl _, fun y h => absurd h (Nat.lt_irrefl 0), fun y h => absurd (List.getElem?_eq_some_iff.1 h).1 (Nat.lt_irrefl _)⟩ (by exact ⟨rfl, rfl, rfl, rfl, rfl, (congrArg (fun z => some (Value.int .i64 z)) (by omega)), (congrArg (fun z => some (Value.int .i64 z)) (by omega)), trivial⟩) (fun w h => h) ?_
      rintro ⟨i, j⟩ ⟨h1, h2, h3, h5⟩
      refine EW_seq ?_
      refine EW_seq ?_
      -- region 15  zsortanyfunc.go:412
      refine EW_region ?_
      refine EL_s rfl rfl rfl (os_move rfl) ?_
      refine EL_s rfl rfl rfl (os_move rfl) ?_
      refine EL_s rfl rfl rfl (os_lss rfl rfl) ?_
      refine EL_nil ?_
      refine EQ_then (EQ_wp ?_)
      refine EW_cond rfl (fun h => ?_) (fun h => ?_)
      · try simp only [decide_eq_true_eq, decide_eq_false_iff_not, Bool.not_eq_true', Bool.not_eq_false'] at h
        refine EW_skip ?_
        refine EQ_then (EQ_wp ?_)
        refine EW_block ?_
        refine EW_seq ?_
        obtain ⟨y, hyB⟩ := get_some (l := A) (k := (i + j) / 2) (by omega)
        have hy : (pre ++ (A ++ ([d] ++ (post))))[pre.length + (i + j) / 2]? = some y := get_in (P := pre) rfl hyB rfl
        -- region 16  zsortanyfunc.go:413
        refine EW_region ?_
        refine EL_s rfl rfl rfl (os_move rfl) ?_
        refine EL_s rfl rfl rfl (os_move rfl) ?_
        refine EL_s rfl rfl rfl (os_add_in rfl rfl (IntWalk.i64_in _ (by omega))) ?_
        refine EL_s rfl rfl rfl (os_conv_in rfl ⟨_, int3⟩ int82 (IntWalk.u64_in _ (by omega))) ?_
        refine EL_s rfl rfl rfl (os_half rfl rfl (by decide) (by omega)) ?_
        refine EL_s rfl rfl rfl (os_conv_in rfl ⟨_, int82⟩ int3 (IntWalk.i64_in _ (by omega))) ?_
        refine EL_s rfl rfl rfl (os_assign rfl) ?_
        refine EL_nil ?_
        refine EQ_then (EQ_wp ?_)
        refine EW_seq ?_
        -- region 17 DRAWN  zsortanyfunc.go:414
        refine EW_draw [] [.s, .s, .s, .s, .s, .s, .s, .s, .s, .s, .s, .s] [0, 1, 2, 3, 4, 5, 6, 7, 8, 9, 10, 11] mixed (by kernel_rfl) (by kernel_rfl) rfl ?_
        refine EP_s rfl rfl rfl rfl rfl (by exact (os_move rfl)) ?_
        refine EP_s rfl rfl rfl rfl rfl (by exact (os_move rfl)) ?_
        refine EP_s rfl rfl rfl rfl rfl (by exact (os_move rfl)) ?_
        refine EP_s rfl rfl rfl rfl rfl (by exact (os_at ((pre.length + A.length)) rfl rfl (by omega) sl28 (by omega) ((ho.row' (L := L0)).some (by omega)))) ?_
        refine EP_s rfl rfl rfl rfl rfl (by exact (os_load_agg (cs := pcells d) rfl agg53 (ho.get hd))) ?_
        refine EP_s rfl rfl rfl rfl rfl (by exact (os_move rfl)) ?_
        refine EP_s rfl rfl rfl rfl rfl (by exact (os_move rfl)) ?_
        refine EP_s rfl rfl rfl rfl rfl (by exact (os_at ((pre.length + (i + j) / 2)) rfl rfl (by omega) sl28 (by omega) ((ho.row' (L := L0)).some (by omega)))) ?_
        refine EP_s rfl rfl rfl rfl rfl (by exact (os_load_agg (cs := pcells y) rfl agg53 (ho.get hy))) ?_
        refine EP_s rfl rfl rfl rfl rfl (by exact (os_callv (fs := []) (vs := [_, _]) rfl body17 rfl (m_compare (ho.okAt hd) (ho.okAt hy)))) ?_
        refine EP_s rfl rfl rfl rfl rfl (by exact (os_lss rfl rfl)) ?_
        refine EP_s rfl rfl rfl rfl rfl (by exact (os_not rfl)) ?_
        refine EP_nil ?_
        refine EQ_then (EQ_wp ?_)
        refine EW_cond rfl (fun h => ?_) (fun h => ?_)
        · try simp only [decide_eq_true_eq, decide_eq_false_iff_not, Bool.not_eq_true', Bool.not_eq_false'] at h
          have h4 := leP_of_not h
          -- region 18  zsortanyfunc.go:415
          refine EW_region ?_
          refine EL_s rfl rfl rfl (os_move rfl) ?_
          refine EL_s rfl rfl rfl (os_add_in rfl rfl (IntWalk.i64_in _ (by omega))) ?_
          refine EL_s rfl rfl rfl (os_assign rfl) ?_
          refine EL_nil ?_
          refine EQ_block_normal ?_
          refine EQ_round ((i + j) / 2 + 1, j) ?_ ?_ ?_ ?_
          · exact ⟨by omega, h2, (fun z _ hz => by rw [Nat.add_sub_cancel, hyB] at hz; cases hz; exact h4), h5⟩
          · exact (by dsimp only; omega)
          · exact ⟨rfl, rfl, rfl, rfl, rfl, (congrArg (fun z => some (Value.int .i64 z)) (by omega)), rfl, trivial⟩
          · exact fun w h => h
        · try simp only [decide_eq_true_eq, decide_eq_false_iff_not, Bool.not_eq_true', Bool.not_eq_false'] at h
          have h4 := leP_of_lt h
          -- region 19  zsortanyfunc.go:417
          refine EW_region ?_
          refine EL_s rfl rfl rfl (os_move rfl) ?_
          refine EL_s rfl rfl rfl (os_assign rfl) ?_
          refine EL_nil ?_
          refine EQ_block_normal ?_
          refine EQ_round (i, (i + j) / 2) ?_ ?_ ?_ ?_
          · exact ⟨by omega, by omega, h3, (fun z hz => by rw [hyB] at hz; cases hz; exact h4)⟩
          · exact (by dsimp only; omega)
          · exact ⟨rfl, rfl, rfl, rfl, rfl, rfl, (congrArg (fun z => some (Value.int .i64 z)) (by omega)), trivial⟩
          · exact fun w h => h
      · try simp only [decide_eq_true_eq, decide_eq_false_iff_not, Bool.not_eq_true', Bool.not_eq_false'] at h
        refine EW_exit ?_
        refine EQ_then_exit (EQ_then_exit (EQ_block_exit (?_)))
        refine EQ_then (EQ_wp ?_)
        refine EW_seq ?_
        refine EW_seq ?_
        -- region 20  zsortanyfunc.go:421
        refine EW_region ?_
        refine EL_s rfl rfl rfl (os_move rfl) ?_
        refine EL_s rfl rfl rfl (os_assign rfl) ?_
        refine EL_nil ?_
        refine EQ_then (EQ_wp ?_)
        refine EW_block ?_
        refine EW_loop (σ := Nat × List PF × List PF × Seg) (fun ⟨k, A1, A2, S⟩ => [(0, .slice a m c), (14, .int .i64 (lo + (i : Int))), (17, .int .i64 (lo + (k : Int)))]) (fun ⟨k, A1, A2, S⟩ => I0) (fun ⟨k, A1, A2, S⟩ => S :: L0) (fun ⟨k, A1, A2, S⟩ => FOwn pcells 53 I0 a m c S (pre ++ (A1 ++ ((d :: A2) ++ (post)))) ∧ A1 ++ A2 = A ∧ A1.length = k ∧ i ≤ k) (fun ⟨k, A1, A2, S⟩ => k) (A.length, A, [], S0) ⟨by simpa using ho, by simp, rfl, by omega⟩ (by exact ⟨rfl, rfl, (congrArg (fun z => some (Value.int .i64 z)) (by omega)), trivial⟩) (fun w h => h) ?_
        rintro ⟨k, A1, A2, S⟩ ⟨ho, hA, b1, b2⟩
        have lA := congrArg List.length hA
        rw [List.length_append] at lA
        have few := ho.few
        have e1 := ho.len
        simp only [List.length_append, List.length_cons, List.length_nil] at few e1
        refine EW_seq ?_
        refine EW_seq ?_
        -- region 21  zsortanyfunc.go:421
        refine EW_region ?_
        refine EL_s rfl rfl rfl (os_move rfl) ?_
        refine EL_s rfl rfl rfl (os_move rfl) ?_
        refine EL_s rfl rfl rfl (os_gtr rfl rfl) ?_
        refine EL_nil ?_
        refine EQ_then (EQ_wp ?_)
        refine EW_cond rfl (fun h => ?_) (fun h => ?_)
        · try simp only [decide_eq_true_eq, decide_eq_false_iff_not, Bool.not_eq_true', Bool.not_eq_false'] at h
          refine EW_skip ?_
          refine EQ_then (EQ_wp ?_)
          refine EW_seq ?_
          refine EW_block ?_
          obtain ⟨y, A3, rfl⟩ := snoc_of (l := A1) (by omega)
          simp only [List.length_append, List.length_cons, List.length_nil] at b1 few e1
          have hc : pre ++ ((A3 ++ [y]) ++ ((d :: A2) ++ (post))) = (pre ++ A3) ++ y :: ([] ++ d :: (A2 ++ post)) := by simp
          have i1 : pre.length + (k - 1) = (pre ++ A3).length := by simp; omega
          have i2 : pre.length + k = (pre ++ A3).length + 1 + ([] : List PF).length := by simp; omega
          have hy := get_at hc i1
          have hd := get_at2 hc i2
          -- region 23 DRAWN  zsortanyfunc.go:422
          refine EW_draw ([]) [.s, .s, .r, .r, .r, .s, .s, .s, .s, .s, .s, .s, .s, .s, .s, .y, .s, .x] [0, 1, 2, 3, 4, 5, 6, 7, 8, 9, 10, 11, 12, 13, 14, 15, 16, 17] mixed (by kernel_rfl) (by kernel_rfl) rfl ?_
          refine EP_s rfl rfl rfl rfl rfl (by exact (os_move rfl)) ?_
          refine EP_s rfl rfl rfl rfl rfl (by exact (os_move rfl)) ?_
          refine EP_r rfl rfl rfl rfl rfl (Incl.nil _) (by exact (os_move rfl)) ?_
          refine EP_r rfl rfl rfl rfl rfl (Incl.nil _) (by exact (os_move rfl)) ?_
          refine EP_r rfl rfl rfl rfl rfl (Incl.nil _) (by exact (os_sub_in rfl rfl (IntWalk.i64_in _ (by omega)))) ?_
          refine EP_s rfl rfl rfl rfl rfl (by exact (os_move rfl)) ?_
          refine EP_s rfl rfl rfl rfl rfl (by exact (os_move rfl)) ?_
          refine EP_s rfl rfl rfl rfl rfl (by exact (os_sub_in rfl rfl (IntWalk.i64_in _ (by omega)))) ?_
          refine EP_s rfl rfl rfl rfl rfl (by exact (os_at ((pre.length + (k - 1))) rfl rfl (by omega) sl28 (by omega) ((ho.row' (L := L0)).some (by omega)))) ?_
          refine EP_s rfl rfl rfl rfl rfl (by exact (os_load_agg (cs := pcells y) rfl agg53 (ho.get hy))) ?_
          refine EP_s rfl rfl rfl rfl rfl (by exact (os_move rfl)) ?_
          refine EP_s rfl rfl rfl rfl rfl (by exact (os_move rfl)) ?_
          refine EP_s rfl rfl rfl rfl rfl (by exact (os_at ((pre.length + k)) rfl rfl (by omega) sl28 (by omega) ((ho.row' (L := L0)).some (by omega)))) ?_
          refine EP_s rfl rfl rfl rfl rfl (by exact (os_load_agg (cs := pcells d) rfl agg53 (ho.get hd))) ?_
          refine EP_s rfl rfl rfl rfl rfl (by exact (os_at ((pre.length + k)) rfl rfl (by omega) sl28 (by omega) ((ho.row' (L := L0)).some (by omega)))) ?_
          refine EP_kz rfl rfl rfl rfl (by exact (ox_store_row rfl rfl sz53 (by rfl) (by rfl) ho.row (by omega) pick0)) (fun _ _ _ => Incl.nil _) ?_
          rintro L4 v4 ⟨S4, rfl, ho4⟩
          refine EP_s rfl rfl rfl rfl rfl (by exact (os_at ((pre.length + (k - 1))) rfl rfl (by omega) sl28 (by omega) ((ho.row' (L := L0)).some (by omega)))) ?_
          refine EP_z rfl rfl rfl rfl (by exact (ox_store_row rfl rfl sz53 (by rfl) (by rfl) ho4 (by omega) pick0)) ?_
          rintro L5 v5 ⟨S5, rfl, ho5⟩
          have ho6 := FOwn.swap (x := d) (y := y) ho ho5 (List.mem_of_getElem? hd) (List.mem_of_getElem? hy) ((swap_at' hc i1 i2).trans (by simp : _ = pre ++ (A3 ++ ((d :: (y :: A2)) ++ (post)))))
          refine EP_nil ?_
          refine EQ_block_normal ?_
          refine EQ_then (EQ_wp ?_)
          -- region 22  zsortanyfunc.go:421
          refine EW_region ?_
          refine EL_s rfl rfl rfl (os_move rfl) ?_
          refine EL_s rfl rfl rfl (os_sub_in rfl rfl (IntWalk.i64_in _ (by omega))) ?_
          refine EL_s rfl rfl rfl (os_assign rfl) ?_
          refine EL_nil ?_
          refine EQ_round (k - 1, A3, y :: A2, S5) ?_ ?_ ?_ ?_
          · exact ⟨ho6, by rw [← hA]; simp, by omega, by omega⟩
          · exact (by dsimp only; omega)
          · exact ⟨rfl, rfl, (congrArg (fun z => some (Value.int .i64 z)) (by omega)), trivial⟩
          · exact fun w h => h
        · try simp only [decide_eq_true_eq, decide_eq_false_iff_not, Bool.not_eq_true', Bool.not_eq_false'] at h
          refine EW_exit ?_
          refine EQ_then_exit (EQ_then_exit (EQ_block_exit (?_)))
          refine EQ_then (EQ_wp ?_)
          refine EW_ret ?_
          refine EQ_then_ret (?_)
          have hi : i = j := by omega
          subst hi
          have hk : k = i := by omega
          subst hk
          have hl := ins_law sA hA (by rw [b1]; exact h3) (by rw [b1]; exact h5)
          exact px_ret0 _ Try.results43  (.refl _) ((Incl.refl _).cons _) ⟨A1 ++ d :: A2, rfl, ho.to (by simp), hl.2.trans (by exact (List.perm_append_comm (l₁ := [d]) (l₂ := A))), hl.1⟩ (.inl rfl)
    · try simp only [decide_eq_true_eq, decide_eq_false_iff_not, Bool.not_eq_true', Bool.not_eq_false'] at h
      have nB := h
      refine EW_skip ?_
      refine EQ_then (EQ_wp ?_)
      refine EW_seq ?_
      obtain ⟨M, hM⟩ : ∃ M, M = (A.length + B.length) / 2 := ⟨_, rfl⟩
      -- region 24  zsortanyfunc.go:427
      refine EW_region ?_
      refine EL_s rfl rfl rfl (os_move rfl) ?_
      refine EL_s rfl rfl rfl (os_move rfl) ?_
      refine EL_s rfl rfl rfl (os_add_in rfl rfl (IntWalk.i64_in _ (by omega))) ?_
      refine EL_s rfl rfl rfl (os_conv_in rfl ⟨_, int3⟩ int82 (IntWalk.u64_in _ (by omega))) ?_
      refine EL_s rfl rfl rfl (os_half rfl rfl (by decide) (by omega)) ?_
      refine EL_s rfl rfl rfl (os_conv_in rfl ⟨_, int82⟩ int3 (IntWalk.i64_in _ (by omega))) ?_
      refine EL_s rfl rfl rfl (os_assign rfl) ?_
      refine EL_nil ?_
      refine EQ_then (EQ_wp ?_)
      refine EW_seq ?_
      -- region 25  zsortanyfunc.go:428
      refine EW_region ?_
      refine EL_s rfl rfl rfl (os_move rfl) ?_
      refine EL_s rfl rfl rfl (os_move rfl) ?_
      refine EL_s rfl rfl rfl (os_add_in rfl rfl (IntWalk.i64_in _ (by omega))) ?_
      refine EL_s rfl rfl rfl (os_assign rfl) ?_
      refine EL_nil ?_
      refine EQ_then (EQ_wp ?_)
      refine EW_seq ?_
      -- region 26  zsortanyfunc.go:429
      refine EW_region ?_
      refine EL_s rfl rfl rfl (os_assign rfl) ?_
      refine EL_s rfl rfl rfl (os_assign rfl) ?_
      refine EL_nil ?_
      refine EQ_then (EQ_wp ?_)
      refine EW_seq_cut (σ := Nat × Nat) (fun ⟨s0, r0⟩ => [(0, .slice a m c), (1, .int .i64 lo), (2, .int .i64 mid), (3, .int .i64 hi), (4, .func (.func 17) #[] #[]), (18, .int .i64 (lo + (M : Int))), (19, .int .i64 (lo + lo + (M : Int) + (A.length : Int))), (20, .int .i64 (lo + (s0 : Int))), (21, .int .i64 (lo + (r0 : Int)))]) (fun ⟨s0, r0⟩ => I0) (fun ⟨s0, r0⟩ => S0 :: L0) (fun ⟨s0, r0⟩ => M ≤ s0 + B.length ∧ r0 ≤ A.length ∧ r0 ≤ M ∧ s0 ≤ r0 ∧ (s0 = 0 ∨ s0 + B.length = M) ∧ (r0 = A.length ∨ r0 = M)) ?_ ?_
      · skip
        refine EW_seq ?_
        -- region 27  zsortanyfunc.go:430
        refine EW_region ?_
        refine EL_s rfl rfl rfl (os_move rfl) ?_
        refine EL_s rfl rfl rfl (os_move rfl) ?_
        refine EL_s rfl rfl rfl (os_gtr rfl rfl) ?_
        refine EL_nil ?_
        refine EQ_then (EQ_wp ?_)
        refine EW_cond rfl (fun h => ?_) (fun h => ?_)
        · try simp only [decide_eq_true_eq, decide_eq_false_iff_not, Bool.not_eq_true', Bool.not_eq_false'] at h
          refine EW_seq ?_
          -- region 28  zsortanyfunc.go:431
          refine EW_region ?_
          refine EL_s rfl rfl rfl (os_move rfl) ?_
          refine EL_s rfl rfl rfl (os_move rfl) ?_
          refine EL_s rfl rfl rfl (os_sub_in rfl rfl (IntWalk.i64_in _ (by omega))) ?_
          refine EL_s rfl rfl rfl (os_assign rfl) ?_
          refine EL_nil ?_
          refine EQ_then (EQ_wp ?_)
          -- region 29  zsortanyfunc.go:432
          refine EW_region ?_
          refine EL_s rfl rfl rfl (os_move rfl) ?_
          refine EL_s rfl rfl rfl (os_assign rfl) ?_
          refine EL_nil ?_
          refine EQ_cut (M - B.length, M) ?_ ?_ ?_
          · exact ⟨by omega, by omega, by omega, by omega, by omega, by omega⟩
          · exact ⟨rfl, rfl, rfl, rfl, rfl, (congrArg (fun z => some (Value.int .i64 z)) (by omega)), (congrArg (fun z => some (Value.int .i64 z)) (by omega)), (congrArg (fun z => some (Value.int .i64 z)) (by omega)), (congrArg (fun z => some (Value.int .i64 z)) (by omega)), trivial⟩
          · exact fun w h => h
        · try simp only [decide_eq_true_eq, decide_eq_false_iff_not, Bool.not_eq_true', Bool.not_eq_false'] at h
          refine EW_seq ?_
          -- region 30  zsortanyfunc.go:434
          refine EW_region ?_
          refine EL_s rfl rfl rfl (os_move rfl) ?_
          refine EL_s rfl rfl rfl (os_assign rfl) ?_
          refine EL_nil ?_
          refine EQ_then (EQ_wp ?_)
          -- region 31  zsortanyfunc.go:435
          refine EW_region ?_
          refine EL_s rfl rfl rfl (os_move rfl) ?_
          refine EL_s rfl rfl rfl (os_assign rfl) ?_
          refine EL_nil ?_
          refine EQ_cut (0, A.length) ?_ ?_ ?_
          · exact ⟨by omega, by omega, by omega, by omega, by omega, by omega⟩
          · exact ⟨rfl, rfl, rfl, rfl, rfl, (congrArg (fun z => some (Value.int .i64 z)) (by omega)), (congrArg (fun z => some (Value.int .i64 z)) (by omega)), (congrArg (fun z => some (Value.int .i64 z)) (by omega)), (congrArg (fun z => some (Value.int .i64 z)) (by omega)), trivial⟩
          · exact fun w h => h
      · rintro ⟨s0, r0⟩ ⟨c1, c2, c3, c4, c5, c6⟩
        refine EW_seq ?_
        -- region 32  zsortanyfunc.go:437
        refine EW_region ?_
        refine EL_s rfl rfl rfl (os_move rfl) ?_
        refine EL_s rfl rfl rfl (os_sub_in rfl rfl (IntWalk.i64_in _ (by omega))) ?_
        refine EL_s rfl rfl rfl (os_assign rfl) ?_
        refine EL_nil ?_
        refine EQ_then (EQ_wp ?_)
        refine EW_seq ?_
        refine EW_block ?_
        refine EW_loop (σ := Nat × Nat) (fun ⟨s, r⟩ => [(0, .slice a m c), (1, .int .i64 lo), (2, .int .i64 mid), (3, .int .i64 hi), (4, .func (.func 17) #[] #[]), (18, .int .i64 (lo + (M : Int))), (19, .int .i64 (lo + lo + (M : Int) + (A.length : Int))), (20, .int .i64 (lo + (s : Int))), (21, .int .i64 (lo + (r : Int))), (22, .int .i64 (lo + lo + (M : Int) + (A.length : Int) - 1))]) (fun ⟨s, r⟩ => I0) (fun ⟨s, r⟩ => S0 :: L0) (fun ⟨s, r⟩ => s0 ≤ s ∧ s ≤ r ∧ r ≤ r0 ∧ (s0 < s → ∀ x y, A[s - 1]? = some x → B[M - s]? = some y → leP x y) ∧ (r < r0 → ∀ x y, A[r]? = some x → B[M - 1 - r]? = some y → leP y x)) (fun ⟨s, r⟩ => r - s) (s0, r0) ⟨Nat.le_refl _, c4, Nat.le_refl _, fun h => absurd h (Nat.lt_irrefl _), fun h => absurd h (Nat.lt_irrefl _)⟩ (by exact ⟨rfl, rfl, rfl, rfl, rfl, rfl, rfl, rfl, rfl, rfl, trivial⟩) (fun w h => h) ?_
        rintro ⟨s, r⟩ ⟨d1, d2, d3, d4, d5⟩
        refine EW_seq ?_
        refine EW_seq ?_
        -- region 33  zsortanyfunc.go:439
        refine EW_region ?_
        refine EL_s rfl rfl rfl (os_move rfl) ?_
        refine EL_s rfl rfl rfl (os_move rfl) ?_
        refine EL_s rfl rfl rfl (os_lss rfl rfl) ?_
        refine EL_nil ?_
        refine EQ_then (EQ_wp ?_)
        refine EW_cond rfl (fun h => ?_) (fun h => ?_)
        · try simp only [decide_eq_true_eq, decide_eq_false_iff_not, Bool.not_eq_true', Bool.not_eq_false'] at h
          refine EW_skip ?_
          refine EQ_then (EQ_wp ?_)
          refine EW_block ?_
          refine EW_seq ?_
          obtain ⟨x, hxA⟩ := get_some (l := A) (k := (s + r) / 2) (by omega)
          obtain ⟨y, hyB⟩ := get_some (l := B) (k := M - 1 - (s + r) / 2) (by omega)
          have hx : (pre ++ (A ++ (B ++ (post))))[pre.length + (s + r) / 2]? = some x := get_in (P := pre) rfl hxA rfl
          have hy : (pre ++ (A ++ (B ++ (post))))[pre.length + A.length + (M - 1 - (s + r) / 2)]? = some y := get_in (P := pre ++ A) (Q := post) (by simp) hyB (by simp)
          -- region 34  zsortanyfunc.go:440
          refine EW_region ?_
          refine EL_s rfl rfl rfl (os_move rfl) ?_
          refine EL_s rfl rfl rfl (os_move rfl) ?_
          refine EL_s rfl rfl rfl (os_add_in rfl rfl (IntWalk.i64_in _ (by omega))) ?_
          refine EL_s rfl rfl rfl (os_conv_in rfl ⟨_, int3⟩ int82 (IntWalk.u64_in _ (by omega))) ?_
          refine EL_s rfl rfl rfl (os_half rfl rfl (by decide) (by omega)) ?_
          refine EL_s rfl rfl rfl (os_conv_in rfl ⟨_, int82⟩ int3 (IntWalk.i64_in _ (by omega))) ?_
          refine EL_s rfl rfl rfl (os_assign rfl) ?_
          refine EL_nil ?_
          refine EQ_then (EQ_wp ?_)
          refine EW_seq ?_
          -- region 35 DRAWN  zsortanyfunc.go:441
          refine EW_draw [] [.s, .s, .s, .s, .s, .s, .s, .s, .s, .s, .s, .s, .s, .s] [0, 1, 2, 3, 4, 5, 6, 7, 8, 9, 10, 11, 12, 13] mixed (by kernel_rfl) (by kernel_rfl) rfl ?_
          refine EP_s rfl rfl rfl rfl rfl (by exact (os_move rfl)) ?_
          refine EP_s rfl rfl rfl rfl rfl (by exact (os_move rfl)) ?_
          refine EP_s rfl rfl rfl rfl rfl (by exact (os_move rfl)) ?_
          refine EP_s rfl rfl rfl rfl rfl (by exact (os_move rfl)) ?_
          refine EP_s rfl rfl rfl rfl rfl (by exact (os_sub_in rfl rfl (IntWalk.i64_in _ (by omega)))) ?_
          refine EP_s rfl rfl rfl rfl rfl (by exact (os_at ((pre.length + A.length + (M - 1 - (s + r) / 2))) rfl rfl (by omega) sl28 (by omega) ((ho.row' (L := L0)).some (by omega)))) ?_
          refine EP_s rfl rfl rfl rfl rfl (by exact (os_load_agg (cs := pcells y) rfl agg53 (ho.get hy))) ?_
          refine EP_s rfl rfl rfl rfl rfl (by exact (os_move rfl)) ?_
          refine EP_s rfl rfl rfl rfl rfl (by exact (os_move rfl)) ?_
          refine EP_s rfl rfl rfl rfl rfl (by exact (os_at ((pre.length + (s + r) / 2)) rfl rfl (by omega) sl28 (by omega) ((ho.row' (L := L0)).some (by omega)))) ?_
          refine EP_s rfl rfl rfl rfl rfl (by exact (os_load_agg (cs := pcells x) rfl agg53 (ho.get hx))) ?_
          refine EP_s rfl rfl rfl rfl rfl (by exact (os_callv (fs := []) (vs := [_, _]) rfl body17 rfl (m_compare (ho.okAt hy) (ho.okAt hx)))) ?_
          refine EP_s rfl rfl rfl rfl rfl (by exact (os_lss rfl rfl)) ?_
          refine EP_s rfl rfl rfl rfl rfl (by exact (os_not rfl)) ?_
          refine EP_nil ?_
          refine EQ_then (EQ_wp ?_)
          refine EW_cond rfl (fun h => ?_) (fun h => ?_)
          · try simp only [decide_eq_true_eq, decide_eq_false_iff_not, Bool.not_eq_true', Bool.not_eq_false'] at h
            have h4 := leP_of_not h
            -- region 36  zsortanyfunc.go:442
            refine EW_region ?_
            refine EL_s rfl rfl rfl (os_move rfl) ?_
            refine EL_s rfl rfl rfl (os_add_in rfl rfl (IntWalk.i64_in _ (by omega))) ?_
            refine EL_s rfl rfl rfl (os_assign rfl) ?_
            refine EL_nil ?_
            refine EQ_block_normal ?_
            refine EQ_round ((s + r) / 2 + 1, r) ?_ ?_ ?_ ?_
            · exact ⟨by omega, by omega, d3, (fun _ x1 y1 hx1 hy1 => by rw [Nat.add_sub_cancel, hxA] at hx1; rw [show M - ((s + r) / 2 + 1) = M - 1 - (s + r) / 2 from by omega, hyB] at hy1; cases hx1; cases hy1; exact h4), d5⟩
            · exact (by dsimp only; omega)
            · exact ⟨rfl, rfl, rfl, rfl, rfl, rfl, rfl, (congrArg (fun z => some (Value.int .i64 z)) (by omega)), rfl, rfl, trivial⟩
            · exact fun w h => h
          · try simp only [decide_eq_true_eq, decide_eq_false_iff_not, Bool.not_eq_true', Bool.not_eq_false'] at h
            have h4 := leP_of_lt h
            -- region 37  zsortanyfunc.go:444
            refine EW_region ?_
            refine EL_s rfl rfl rfl (os_move rfl) ?_
            refine EL_s rfl rfl rfl (os_assign rfl) ?_
            refine EL_nil ?_
            refine EQ_block_normal ?_
            refine EQ_round (s, (s + r) / 2) ?_ ?_ ?_ ?_
            · exact ⟨d1, by omega, by omega, d4, (fun _ x1 y1 hx1 hy1 => by rw [hxA] at hx1; rw [hyB] at hy1; cases hx1; cases hy1; exact h4)⟩
            · exact (by dsimp only; omega)
            · exact ⟨rfl, rfl, rfl, rfl, rfl, rfl, rfl, rfl, (congrArg (fun z => some (Value.int .i64 z)) (by omega)), rfl, trivial⟩
            · exact fun w h => h
        · try simp only [decide_eq_true_eq, decide_eq_false_iff_not, Bool.not_eq_true', Bool.not_eq_false'] at h
          refine EW_exit ?_
          refine EQ_then_exit (EQ_then_exit (EQ_block_exit (?_)))
          refine EQ_then (EQ_wp ?_)
          refine EW_seq ?_
          have hsr : s = r := by omega
          subst hsr
          obtain ⟨A1, A2, hAA, a1⟩ := split_at (l := A) (k := s) (by omega)
          obtain ⟨B1, B2, hBB, b1⟩ := split_at (l := B) (k := M - s) (by omega)
          have lA := congrArg List.length hAA
          have lB := congrArg List.length hBB
          rw [List.length_append] at lA lB
          have sA1 := sA
          have sB1 := sB
          rw [hAA] at sA1
          rw [hBB] at sB1
          -- region 38  zsortanyfunc.go:448
          refine EW_region ?_
          refine EL_s rfl rfl rfl (os_move rfl) ?_
          refine EL_s rfl rfl rfl (os_move rfl) ?_
          refine EL_s rfl rfl rfl (os_sub_in rfl rfl (IntWalk.i64_in _ (by omega))) ?_
          refine EL_s rfl rfl rfl (os_assign rfl) ?_
          refine EL_nil ?_
          refine EQ_then (EQ_wp ?_)
          refine EW_seq_cut (σ := Gh × Seg) (fun ⟨J, S⟩ => [(0, .slice a m c), (1, .int .i64 lo), (2, .int .i64 mid), (3, .int .i64 hi), (4, .func (.func 17) #[] #[]), (18, .int .i64 (lo + (M : Int))), (20, .int .i64 (lo + (s : Int))), (24, .int .i64 (mid + ((M - s : Nat) : Int)))]) (fun ⟨J, S⟩ => J) (fun ⟨J, S⟩ => S :: L0) (fun ⟨J, S⟩ => I0.le J ∧ FOwn pcells 53 J a m c S (pre ++ (A1 ++ (B1 ++ (A2 ++ (B2 ++ (post))))))) ?_ ?_
          · skip
            refine EW_seq ?_
            -- region 39  zsortanyfunc.go:449
            refine EW_region ?_
            refine EL_s rfl rfl rfl (os_move rfl) ?_
            refine EL_s rfl rfl rfl (os_move rfl) ?_
            refine EL_s rfl rfl rfl (os_lss rfl rfl) ?_
            refine EL_s rfl rfl rfl (os_move rfl) ?_
            refine EL_split (t := 181) rfl (fun h => ?_) (fun h => ?_)
            · try simp only [decide_eq_true_eq, decide_eq_false_iff_not, Bool.not_eq_true', Bool.not_eq_false'] at h
              refine EL_yes (j := 3) (d := 181) (b := true) rfl rfl rfl ?_
              refine EL_s rfl rfl rfl (os_move rfl) ?_
              refine EL_yes (j := 3) (d := 181) (b := true) rfl rfl rfl ?_
              refine EL_s rfl rfl rfl (os_move rfl) ?_
              refine EL_yes (j := 3) (d := 181) (b := true) rfl rfl rfl ?_
              refine EL_s rfl rfl rfl (os_lss rfl rfl) ?_
              refine EL_s rfl rfl rfl (os_pick_t rfl rfl) ?_
              refine EL_nil ?_
              refine EQ_then (EQ_wp ?_)
              refine EW_cond rfl (fun h => ?_) (fun h => ?_)
              · try simp only [decide_eq_true_eq, decide_eq_false_iff_not, Bool.not_eq_true', Bool.not_eq_false'] at h
                -- region 40  zsortanyfunc.go:450
                refine EW_region ?_
                refine EL_s rfl rfl rfl (os_move rfl) ?_
                refine EL_s rfl rfl rfl (os_move rfl) ?_
                refine EL_s rfl rfl rfl (os_move rfl) ?_
                refine EL_s rfl rfl rfl (os_move rfl) ?_
                refine EL_s rfl rfl rfl (os_move rfl) ?_
                refine EL_x rfl rfl (ox_turn (vs := [_, _, _, _, _]) body45 rfl pick0 (s_rotate (pre := pre ++ A1) (X := A2) (Y := B1) (post := B2 ++ post) (ho.to (by rw [hAA, hBB]; simp)) _ _ _ _ (by simp; omega) (by simp; omega) (by omega) (by omega) (by omega))) ?_; rintro J2 L2 v2 hI2 ⟨S2, rfl, rfl, ho2⟩
                refine EL_nil ?_
                refine EQ_cut (J2, S2) ?_ ?_ ?_
                · exact ⟨hI2, ho2.to (by simp)⟩
                · exact ⟨rfl, rfl, rfl, rfl, rfl, rfl, rfl, (congrArg (fun z => some (Value.int .i64 z)) (by omega)), trivial⟩
                · exact fun w h => h
              · try simp only [decide_eq_true_eq, decide_eq_false_iff_not, Bool.not_eq_true', Bool.not_eq_false'] at h
                refine EW_skip ?_
                obtain rfl : B1 = [] := List.eq_nil_of_length_eq_zero (by omega)
                refine EQ_cut (I0, S0) ?_ ?_ ?_
                · exact ⟨.refl _, ho.to (by rw [hAA, hBB]; simp)⟩
                · exact ⟨rfl, rfl, rfl, rfl, rfl, rfl, rfl, (congrArg (fun z => some (Value.int .i64 z)) (by omega)), trivial⟩
                · exact fun w h => h
            · try simp only [decide_eq_true_eq, decide_eq_false_iff_not, Bool.not_eq_true', Bool.not_eq_false'] at h
              refine EL_no rfl rfl rfl rfl rfl rfl ?_
              refine EL_no rfl rfl rfl rfl rfl rfl ?_
              refine EL_no rfl rfl rfl rfl rfl rfl ?_
              refine EL_s rfl rfl rfl (os_pick_f rfl rfl) ?_
              refine EL_nil ?_
              refine EQ_then (EQ_wp ?_)
              refine EW_false rfl ?_
              refine EW_skip ?_
              obtain rfl : A2 = [] := List.eq_nil_of_length_eq_zero (by omega)
              refine EQ_cut (I0, S0) ?_ ?_ ?_
              · exact ⟨.refl _, ho.to (by rw [hAA, hBB]; simp)⟩
              · exact ⟨rfl, rfl, rfl, rfl, rfl, rfl, rfl, (congrArg (fun z => some (Value.int .i64 z)) (by omega)), trivial⟩
              · exact fun w h => h
          · rintro ⟨J, S⟩ ⟨hJ, ho⟩
            refine EW_seq_cut (σ := Gh × Seg × List PF) (fun ⟨J, S, V⟩ => [(0, .slice a m c), (3, .int .i64 hi), (4, .func (.func 17) #[] #[]), (18, .int .i64 (lo + (M : Int))), (24, .int .i64 (mid + ((M - s : Nat) : Int)))]) (fun ⟨J, S, V⟩ => J) (fun ⟨J, S, V⟩ => S :: L0) (fun ⟨J, S, V⟩ => I0.le J ∧ FOwn pcells 53 J a m c S (pre ++ (V ++ (A2 ++ (B2 ++ (post))))) ∧ V.Perm (A1 ++ B1) ∧ Sorted V) ?_ ?_
            · skip
              refine EW_seq ?_
              -- region 41  zsortanyfunc.go:452
              refine EW_region ?_
              refine EL_s rfl rfl rfl (os_move rfl) ?_
              refine EL_s rfl rfl rfl (os_move rfl) ?_
              refine EL_s rfl rfl rfl (os_lss rfl rfl) ?_
              refine EL_s rfl rfl rfl (os_move rfl) ?_
              refine EL_split (t := 195) rfl (fun h => ?_) (fun h => ?_)
              · try simp only [decide_eq_true_eq, decide_eq_false_iff_not, Bool.not_eq_true', Bool.not_eq_false'] at h
                refine EL_yes (j := 3) (d := 195) (b := true) rfl rfl rfl ?_
                refine EL_s rfl rfl rfl (os_move rfl) ?_
                refine EL_yes (j := 3) (d := 195) (b := true) rfl rfl rfl ?_
                refine EL_s rfl rfl rfl (os_move rfl) ?_
                refine EL_yes (j := 3) (d := 195) (b := true) rfl rfl rfl ?_
                refine EL_s rfl rfl rfl (os_lss rfl rfl) ?_
                refine EL_s rfl rfl rfl (os_pick_t rfl rfl) ?_
                refine EL_nil ?_
                refine EQ_then (EQ_wp ?_)
                refine EW_cond rfl (fun h => ?_) (fun h => ?_)
                · try simp only [decide_eq_true_eq, decide_eq_false_iff_not, Bool.not_eq_true', Bool.not_eq_false'] at h
                  -- region 42  zsortanyfunc.go:453
                  refine EW_region ?_
                  refine EL_s rfl rfl rfl (os_move rfl) ?_
                  refine EL_s rfl rfl rfl (os_move rfl) ?_
                  refine EL_s rfl rfl rfl (os_move rfl) ?_
                  refine EL_s rfl rfl rfl (os_move rfl) ?_
                  refine EL_s rfl rfl rfl (os_move rfl) ?_
                  refine EL_x rfl rfl (ox_turn (vs := [_, _, _, _, _]) body43 rfl pick0 (ih (pre := pre) (A := A1) (B := B1) (post := A2 ++ (B2 ++ (post))) (ho.to (by simp)) _ _ _ (by (try simp); omega) (by (try simp); omega) (by (try simp); omega) (by omega) (by omega) sA1.left sB1.left (by omega))) ?_; rintro J2 L2 v2 hI2 ⟨S2, rfl, V, rfl, ho2, hV, hV2⟩
                  refine EL_nil ?_
                  refine EQ_cut (J2, S2, V) ?_ ?_ ?_
                  · exact ⟨hJ.trans hI2, ho2, hV, hV2⟩
                  · exact ⟨rfl, rfl, rfl, rfl, rfl, trivial⟩
                  · exact fun w h => h
                · try simp only [decide_eq_true_eq, decide_eq_false_iff_not, Bool.not_eq_true', Bool.not_eq_false'] at h
                  refine EW_skip ?_
                  obtain rfl : B1 = [] := List.eq_nil_of_length_eq_zero (by omega)
                  refine EQ_cut (J, S, A1) ?_ ?_ ?_
                  · exact ⟨hJ, ho.to (by simp), by simp, sA1.left⟩
                  · exact ⟨rfl, rfl, rfl, rfl, rfl, trivial⟩
                  · exact fun w h => h
              · try simp only [decide_eq_true_eq, decide_eq_false_iff_not, Bool.not_eq_true', Bool.not_eq_false'] at h
                refine EL_no rfl rfl rfl rfl rfl rfl ?_
                refine EL_no rfl rfl rfl rfl rfl rfl ?_
                refine EL_no rfl rfl rfl rfl rfl rfl ?_
                refine EL_s rfl rfl rfl (os_pick_f rfl rfl) ?_
                refine EL_nil ?_
                refine EQ_then (EQ_wp ?_)
                refine EW_false rfl ?_
                refine EW_skip ?_
                obtain rfl : A1 = [] := List.eq_nil_of_length_eq_zero (by omega)
                refine EQ_cut (J, S, B1) ?_ ?_ ?_
                · exact ⟨hJ, ho.to (by simp), by simp, sB1.left⟩
                · exact ⟨rfl, rfl, rfl, rfl, rfl, trivial⟩
                · exact fun w h => h
            · rintro ⟨J, S, V⟩ ⟨hJ, ho, hV, hV2⟩
              have lV := hV.length_eq
              rw [List.length_append] at lV
              have hl := fun W hW hW2 => merge_law (W := W) sA1 sB1 hV hV2 hW hW2 (fun x y h0 hx hy => d4 (by have h9 := (List.getElem?_eq_some_iff.1 hy).1; rw [List.length_append] at h9; omega) x y (by rw [hAA, ← a1]; exact hx) (by rw [hBB, ← b1]; exact hy)) (fun y x h0 hy hx => d5 (by have h9 := (List.getElem?_eq_some_iff.1 hx).1; rw [List.length_append] at h9; omega) x y (by rw [hAA, ← a1]; exact hx) (by rw [hBB, show M - 1 - s = B1.length - 1 from by omega]; exact hy))
              rw [← hAA, ← hBB] at hl
              refine EW_seq ?_
              -- region 43  zsortanyfunc.go:455
              refine EW_region ?_
              refine EL_s rfl rfl rfl (os_move rfl) ?_
              refine EL_s rfl rfl rfl (os_move rfl) ?_
              refine EL_s rfl rfl rfl (os_lss rfl rfl) ?_
              refine EL_s rfl rfl rfl (os_move rfl) ?_
              refine EL_split (t := 209) rfl (fun h => ?_) (fun h => ?_)
              · try simp only [decide_eq_true_eq, decide_eq_false_iff_not, Bool.not_eq_true', Bool.not_eq_false'] at h
                refine EL_yes (j := 3) (d := 209) (b := true) rfl rfl rfl ?_
                refine EL_s rfl rfl rfl (os_move rfl) ?_
                refine EL_yes (j := 3) (d := 209) (b := true) rfl rfl rfl ?_
                refine EL_s rfl rfl rfl (os_move rfl) ?_
                refine EL_yes (j := 3) (d := 209) (b := true) rfl rfl rfl ?_
                refine EL_s rfl rfl rfl (os_lss rfl rfl) ?_
                refine EL_s rfl rfl rfl (os_pick_t rfl rfl) ?_
                refine EL_nil ?_
                refine EQ_then (EQ_wp ?_)
                refine EW_cond rfl (fun h => ?_) (fun h => ?_)
                · try simp only [decide_eq_true_eq, decide_eq_false_iff_not, Bool.not_eq_true', Bool.not_eq_false'] at h
                  -- region 44  zsortanyfunc.go:456
                  refine EW_region ?_
                  refine EL_s rfl rfl rfl (os_move rfl) ?_
                  refine EL_s rfl rfl rfl (os_move rfl) ?_
                  refine EL_s rfl rfl rfl (os_move rfl) ?_
                  refine EL_s rfl rfl rfl (os_move rfl) ?_
                  refine EL_s rfl rfl rfl (os_move rfl) ?_
                  refine EL_x rfl rfl (ox_turn (vs := [_, _, _, _, _]) body43 rfl pick0 (ih (pre := pre ++ V) (A := A2) (B := B2) (post := post) (ho.to (by simp)) _ _ _ (by (try simp); omega) (by (try simp); omega) (by (try simp); omega) (by omega) (by omega) sA1.right sB1.right (by omega))) ?_; rintro J2 L2 v2 hI2 ⟨S2, rfl, W, rfl, ho2, hW, hW2⟩
                  refine EL_nil ?_
                  exact px_ret0 _ Try.results43  (hJ.trans hI2) ((Incl.refl _).cons _) ⟨V ++ W, rfl, ho2.to (by simp), (hl W hW hW2).2, (hl W hW hW2).1⟩ (.inr rfl)
                · try simp only [decide_eq_true_eq, decide_eq_false_iff_not, Bool.not_eq_true', Bool.not_eq_false'] at h
                  refine EW_skip ?_
                  obtain rfl : B2 = [] := List.eq_nil_of_length_eq_zero (by omega)
                  exact px_ret0 _ Try.results43  hJ ((Incl.refl _).cons _) ⟨V ++ A2, rfl, ho.to (by simp), (hl A2 (by simp) sA1.right).2, (hl A2 (by simp) sA1.right).1⟩ (.inr rfl)
              · try simp only [decide_eq_true_eq, decide_eq_false_iff_not, Bool.not_eq_true', Bool.not_eq_false'] at h
                refine EL_no rfl rfl rfl rfl rfl rfl ?_
                refine EL_no rfl rfl rfl rfl rfl rfl ?_
                refine EL_no rfl rfl rfl rfl rfl rfl ?_
                refine EL_s rfl rfl rfl (os_pick_f rfl rfl) ?_
                refine EL_nil ?_
                refine EQ_then (EQ_wp ?_)
                refine EW_false rfl ?_
                refine EW_skip ?_
                obtain rfl : A2 = [] := List.eq_nil_of_length_eq_zero (by omega)
                exact px_ret0 _ Try.results43  hJ ((Incl.refl _).cons _) ⟨V ++ B2, rfl, ho.to (by simp), (hl B2 (by simp) sB1.right).2, (hl B2 (by simp) sB1.right).1⟩ (.inr rfl)


theorem s_merge : ∀ N, MergeC N
  | 0 => fun _ _ _ _ _ _ _ hA _ _ _ hN => absurd hN (by omega)
  | N + 1 => fun ho lo mid hi g1 g2 g3 gA gB sA sB gN => s_merge_step N (s_merge N) ho lo mid hi g1 g2 g3 gA gB sA sB gN


end Go.Proofs.Ytodkbhbbdnjlcaa
