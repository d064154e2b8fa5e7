/- Proved here: the part SO of the proof that the law of this seat returns true for every input; no condition. -/
import Derived.Test.YtodkbhbbdnjlcaaSN
set_option maxRecDepth 20000
set_option linter.unusedVariables false
set_option linter.unusedSimpArgs false
namespace Go.Proofs.Ytodkbhbbdnjlcaa
open Go Go.Gl


def Blks (k : Nat) (Ds : List (List PF)) : Prop := ∀ D ∈ Ds, D.length = k ∧ Sorted D
theorem Blks.snoc {k : Nat} {Ds : List (List PF)} {W : List PF} (h : Blks k Ds) (h1 : W.length = k) (h2 : Sorted W) : Blks k (Ds ++ [W]) := by
  intro D hD
  rcases List.mem_append.1 hD with hD | hD
  · exact h D hD
  · rw [List.mem_singleton.1 hD]; exact ⟨h1, h2⟩
theorem perm_mid {X Y Y' Z : List PF} (h : Y'.Perm Y) : (X ++ (Y' ++ Z)).Perm (X ++ (Y ++ Z)) := (h.append_right Z).append_left X
theorem perm_to {l l' ps : List PF} (h : l.Perm ps) (he : l = l') : l'.Perm ps := he ▸ h
theorem blk_one {k : Nat} {Ds : List (List PF)} (h : Blks k Ds) (hl : Ds.flatten.length < 2 * k) : Ds = [] ∨ ∃ D, Ds = [D] ∧ D.length = k ∧ Sorted D := by
  match Ds, h, hl with
  | [], _, _ => exact .inl rfl
  | [D], h, _ => exact .inr ⟨D, rfl, h D (by simp)⟩
  | D :: E :: r, h, hl =>
    have h1 := (h D (by simp)).1
    have h2 := (h E (by simp)).1
    simp only [List.flatten_cons, List.length_append] at hl
    omega
theorem blk_two {k : Nat} {Ds : List (List PF)} {R : List PF} (h : Blks k Ds) (hR : R.length < k) (hl : 2 * k ≤ Ds.flatten.length + R.length) : ∃ D E r, Ds = D :: E :: r ∧ (D.length = k ∧ Sorted D) ∧ (E.length = k ∧ Sorted E) ∧ Blks k r := by
  match Ds, h, hl with
  | [], _, hl => simp at hl; omega
  | [D], h, hl =>
    have h1 := (h D (by simp)).1
    simp at hl; omega
  | D :: E :: r, h, _ => exact ⟨D, E, r, rfl, h D (by simp), h E (by simp), fun x hx => h x (by simp [hx])⟩
theorem blk_sorted {k : Nat} {Ds : List (List PF)} {R : List PF} (h : Blks k Ds) (hk : 0 < k) (hR : Sorted R) (hl : Ds.flatten.length + R.length ≤ k) : Sorted (Ds.flatten ++ R) := by
  rcases blk_one h (by omega) with rfl | ⟨D, rfl, h1, h2⟩
  · simpa using hR
  · have : R = [] := List.eq_nil_of_length_eq_zero (by simp at hl; omega)
    subst this
    simpa using h2

theorem s_stable {I : Gh} {L : List Seg} {a : Option Addr} {m c : Nat} {S0 : Seg} {ps : List PF} (ho : FOwn pcells 53 I a m c S0 (ps)) : PM Try.prog 37 #[.slice a m c, .int .i64 (m : Int), .func (.func 17) #[] #[]] I L S0 fun K S v => ∃ qs, v = .tuple #[] ∧ FOwn pcells 53 K a m c S (qs) ∧ qs.Perm ps ∧ Sorted qs := by
  refine PM.of (n := 63) Try.func37 rfl Try.ntmps37 rfl fun I0 L0 hI0 hL0 => ?_
  have ho := ho.mono hI0
  have few := ho.few
  have e1 := ho.len
  refine EW_seq ?_
  -- region 0  zsortanyfunc.go:336
  refine EW_region ?_
  refine EL_s rfl rfl rfl (os_assign rfl) ?_
  refine EL_nil ?_
  refine EQ_then (EQ_wp ?_)
  refine EW_seq ?_
  -- region 1  zsortanyfunc.go:337
  refine EW_region ?_
  refine EL_s rfl rfl rfl (os_move rfl) ?_
  refine EL_s rfl rfl rfl (os_assign rfl) ?_
  refine EL_s rfl rfl rfl (os_assign rfl) ?_
  refine EL_nil ?_
  refine EQ_then (EQ_wp ?_)
  refine EW_seq ?_
  refine EW_block ?_
  refine EW_loop (σ := Gh × Nat × List (List PF) × List PF × Seg) (fun ⟨J, a0, Ds, R, S⟩ => [(0, .slice a m c), (1, .int .i64 (m : Int)), (2, .func (.func 17) #[] #[]), (6, .int .i64 20), (7, .int .i64 (a0 : Int)), (8, .int .i64 ((a0 : Int) + 20))]) (fun ⟨J, a0, Ds, R, S⟩ => J) (fun ⟨J, a0, Ds, R, S⟩ => S :: L0) (fun ⟨J, a0, Ds, R, S⟩ => I0.le J ∧ FOwn pcells 53 J a m c S (Ds.flatten ++ R) ∧ Blks 20 Ds ∧ Ds.flatten.length = a0 ∧ (Ds.flatten ++ R).Perm ps) (fun ⟨J, a0, Ds, R, S⟩ => R.length) (I0, 0, [], ps, S0) ⟨.refl _, by simpa using ho, fun D hD => (by cases hD), rfl, by simp⟩ (by exact ⟨rfl, rfl, rfl, rfl, rfl, rfl, trivial⟩) (fun w h => h) ?_
  rintro ⟨J, a0, Ds, R, S⟩ ⟨hJ, ho, hD, ha, hP⟩
  have few := ho.few
  have e1 := ho.len
  simp only [List.length_append] at few e1
  refine EW_seq ?_
  refine EW_seq ?_
  -- region 2  zsortanyfunc.go:338
  refine EW_region ?_
  refine EL_s rfl rfl rfl (os_move rfl) ?_
  refine EL_s rfl rfl rfl (os_move rfl) ?_
  refine EL_s rfl rfl rfl (os_leq rfl rfl) ?_
  refine EL_nil ?_
  refine EQ_then (EQ_wp ?_)
  refine EW_cond rfl (fun h => ?_) (fun h => ?_)
  · try simp only [decide_eq_true_eq, decide_eq_false_iff_not, Bool.not_eq_true', Bool.not_eq_false'] at h
    refine EW_skip ?_
    refine EQ_then (EQ_wp ?_)
    refine EW_block ?_
    refine EW_seq ?_
    obtain ⟨W, R2, rfl, w1⟩ := split_at (l := R) (k := 20) (by omega)
    simp only [List.length_append] at few e1
    -- region 3  zsortanyfunc.go:339
    refine EW_region ?_
    refine EL_s rfl rfl rfl (os_move rfl) ?_
    refine EL_s rfl rfl rfl (os_move rfl) ?_
    refine EL_s rfl rfl rfl (os_move rfl) ?_
    refine EL_s rfl rfl rfl (os_move rfl) ?_
    refine EL_x rfl rfl (ox_turn (vs := [_, _, _, _]) body42 rfl pick0 (s_insertion (pre := Ds.flatten) (W := W) (post := R2) (ho.to (by simp)) _ _ (by omega) (by omega))) ?_; rintro J2 L2 v2 hI2 ⟨S2, rfl, W2, rfl, ho2, hW, hW2⟩
    refine EL_nil ?_
    refine EQ_then (EQ_wp ?_)
    refine EW_seq ?_
    -- region 4  zsortanyfunc.go:340
    refine EW_region ?_
    refine EL_s rfl rfl rfl (os_move rfl) ?_
    refine EL_s rfl rfl rfl (os_assign rfl) ?_
    refine EL_nil ?_
    refine EQ_then (EQ_wp ?_)
    -- region 5  zsortanyfunc.go:341
    refine EW_region ?_
    refine EL_s rfl rfl rfl (os_move rfl) ?_
    refine EL_s rfl rfl rfl (os_move rfl) ?_
    refine EL_s rfl rfl rfl (os_add_in rfl rfl (IntWalk.i64_in _ (by omega))) ?_
    refine EL_s rfl rfl rfl (os_assign rfl) ?_
    refine EL_nil ?_
    refine EQ_block_normal ?_
    refine EQ_round (J2, a0 + 20, Ds ++ [W2], R2, S2) ?_ ?_ ?_ ?_
    · exact ⟨hJ.trans hI2, ho2.to (by simp), hD.snoc (by rw [hW.length_eq]; exact w1) hW2, by simp [ha, hW.length_eq, w1], perm_to ((perm_mid hW).trans (perm_to hP (by simp : _ = Ds.flatten ++ (W ++ R2)))) (by simp)⟩
    · exact (by dsimp only; rw [List.length_append]; omega)
    · exact ⟨rfl, rfl, rfl, rfl, rfl, (congrArg (fun z => some (Value.int .i64 z)) (by omega)), trivial⟩
    · exact fun w h => h
  · try simp only [decide_eq_true_eq, decide_eq_false_iff_not, Bool.not_eq_true', Bool.not_eq_false'] at h
    refine EW_exit ?_
    refine EQ_then_exit (EQ_then_exit (EQ_block_exit (?_)))
    refine EQ_then (EQ_wp ?_)
    refine EW_seq ?_
    -- region 6  zsortanyfunc.go:343
    refine EW_region ?_
    refine EL_s rfl rfl rfl (os_move rfl) ?_
    refine EL_s rfl rfl rfl (os_move rfl) ?_
    refine EL_s rfl rfl rfl (os_move rfl) ?_
    refine EL_s rfl rfl rfl (os_move rfl) ?_
    refine EL_x rfl rfl (ox_turn (vs := [_, _, _, _]) body42 rfl pick0 (s_insertion (pre := Ds.flatten) (W := R) (post := []) (ho.to (by simp)) _ _ (by omega) (by omega))) ?_; rintro J2 L2 v2 hI2 ⟨S2, rfl, W2, rfl, ho2, hW, hW2⟩
    refine EL_nil ?_
    refine EQ_then (EQ_wp ?_)
    refine EW_block ?_
    refine EW_loop (σ := Gh × Nat × List (List PF) × List PF × Seg) (fun ⟨J, k, Ds, R, S⟩ => [(0, .slice a m c), (1, .int .i64 (m : Int)), (2, .func (.func 17) #[] #[]), (6, .int .i64 (k : Int))]) (fun ⟨J, k, Ds, R, S⟩ => J) (fun ⟨J, k, Ds, R, S⟩ => S :: L0) (fun ⟨J, k, Ds, R, S⟩ => I0.le J ∧ FOwn pcells 53 J a m c S (Ds.flatten ++ R) ∧ Blks k Ds ∧ R.length < k ∧ Sorted R ∧ (Ds.flatten ++ R).Perm ps ∧ 20 ≤ k) (fun ⟨J, k, Ds, R, S⟩ => m - k) (J2, 20, Ds, W2, S2) ⟨hJ.trans hI2, ho2.to (by simp), hD, by rw [hW.length_eq]; omega, hW2, perm_to ((perm_mid (X := Ds.flatten) (Z := []) hW).trans (perm_to hP (by simp))) (by simp), Nat.le_refl _⟩ (by exact ⟨rfl, rfl, rfl, rfl, trivial⟩) (fun w h => h) ?_
    rintro ⟨J, k, Ds, R, S⟩ ⟨hJ, ho, hD, hR, hR2, hP, hk⟩
    have few := ho.few
    have e1 := ho.len
    simp only [List.length_append] at few e1
    refine EW_seq ?_
    refine EW_seq ?_
    -- region 7  zsortanyfunc.go:345
    refine EW_region ?_
    refine EL_s rfl rfl rfl (os_move rfl) ?_
    refine EL_s rfl rfl rfl (os_move rfl) ?_
    refine EL_s rfl rfl rfl (os_lss rfl rfl) ?_
    refine EL_nil ?_
    refine EQ_then (EQ_wp ?_)
    refine EW_cond rfl (fun h => ?_) (fun h => ?_)
    · try simp only [decide_eq_true_eq, decide_eq_false_iff_not, Bool.not_eq_true', Bool.not_eq_false'] at h
      refine EW_skip ?_
      refine EQ_then (EQ_wp ?_)
      refine EW_block ?_
      refine EW_seq ?_
      -- region 8  zsortanyfunc.go:346
      refine EW_region ?_
      refine EL_s rfl rfl rfl (os_move rfl) ?_
      refine EL_s rfl rfl rfl (os_mul_in rfl rfl (IntWalk.i64_in _ (by omega))) ?_
      refine EL_s rfl rfl rfl (os_assign rfl) ?_
      refine EL_s rfl rfl rfl (os_assign rfl) ?_
      refine EL_nil ?_
      refine EQ_then (EQ_wp ?_)
      refine EW_seq ?_
      refine EW_block ?_
      refine EW_loop (σ := Gh × Nat × List (List PF) × List (List PF) × Seg) (fun ⟨J, a0, Es, Ds, S⟩ => [(0, .slice a m c), (1, .int .i64 (m : Int)), (2, .func (.func 17) #[] #[]), (6, .int .i64 (k : Int)), (7, .int .i64 (a0 : Int)), (8, .int .i64 ((a0 : Int) + 2 * k))]) (fun ⟨J, a0, Es, Ds, S⟩ => J) (fun ⟨J, a0, Es, Ds, S⟩ => S :: L0) (fun ⟨J, a0, Es, Ds, S⟩ => I0.le J ∧ FOwn pcells 53 J a m c S (Es.flatten ++ (Ds.flatten ++ R)) ∧ Blks (2 * k) Es ∧ Blks k Ds ∧ Es.flatten.length = a0 ∧ (Es.flatten ++ (Ds.flatten ++ R)).Perm ps) (fun ⟨J, a0, Es, Ds, S⟩ => Ds.length) (J, 0, [], Ds, S) ⟨hJ, by simpa using ho, fun D hD => (by cases hD), hD, rfl, by simpa using hP⟩ (by exact ⟨rfl, rfl, rfl, rfl, rfl, (congrArg (fun z => some (Value.int .i64 z)) (by omega)), trivial⟩) (fun w h => h) ?_
      rintro ⟨J, a0, Es, Ds, S⟩ ⟨hJ, ho, hE, hD, ha, hP⟩
      have few := ho.few
      have e1 := ho.len
      simp only [List.length_append] at few e1
      refine EW_seq ?_
      refine EW_seq ?_
      -- region 9  zsortanyfunc.go:347
      refine EW_region ?_
      refine EL_s rfl rfl rfl (os_move rfl) ?_
      refine EL_s rfl rfl rfl (os_move rfl) ?_
      refine EL_s rfl rfl rfl (os_leq rfl rfl) ?_
      refine EL_nil ?_
      refine EQ_then (EQ_wp ?_)
      refine EW_cond rfl (fun h => ?_) (fun h => ?_)
      · try simp only [decide_eq_true_eq, decide_eq_false_iff_not, Bool.not_eq_true', Bool.not_eq_false'] at h
        refine EW_skip ?_
        refine EQ_then (EQ_wp ?_)
        refine EW_block ?_
        refine EW_seq ?_
        obtain ⟨D1, D2, Ds2, rfl, ⟨l1, s1⟩, ⟨l2, s2⟩, hD2⟩ := blk_two hD hR (by omega)
        simp only [List.flatten_cons, List.length_append] at few e1
        -- region 10  zsortanyfunc.go:348
        refine EW_region ?_
        refine EL_s rfl rfl rfl (os_move rfl) ?_
        refine EL_s rfl rfl rfl (os_move rfl) ?_
        refine EL_s rfl rfl rfl (os_move rfl) ?_
        refine EL_s rfl rfl rfl (os_move rfl) ?_
        refine EL_s rfl rfl rfl (os_add_in rfl rfl (IntWalk.i64_in _ (by omega))) ?_
        refine EL_s rfl rfl rfl (os_move rfl) ?_
        refine EL_s rfl rfl rfl (os_move rfl) ?_
        refine EL_x rfl rfl (ox_turn (vs := [_, _, _, _, _]) body43 rfl pick0 (s_merge _ (pre := Es.flatten) (A := D1) (B := D2) (post := Ds2.flatten ++ R) (ho.to (by simp)) _ _ _ (by omega) (by omega) (by omega) (by omega) (by omega) s1 s2 (Nat.le_refl _))) ?_; rintro J2 L2 v2 hI2 ⟨S2, rfl, W, rfl, ho2, hW, hW2⟩
        refine EL_nil ?_
        refine EQ_then (EQ_wp ?_)
        refine EW_seq ?_
        -- region 11  zsortanyfunc.go:349
        refine EW_region ?_
        refine EL_s rfl rfl rfl (os_move rfl) ?_
        refine EL_s rfl rfl rfl (os_assign rfl) ?_
        refine EL_nil ?_
        refine EQ_then (EQ_wp ?_)
        -- region 12  zsortanyfunc.go:350
        refine EW_region ?_
        refine EL_s rfl rfl rfl (os_move rfl) ?_
        refine EL_s rfl rfl rfl (os_move rfl) ?_
        refine EL_s rfl rfl rfl (os_mul_in rfl rfl (IntWalk.i64_in _ (by omega))) ?_
        refine EL_s rfl rfl rfl (os_add_in rfl rfl (IntWalk.i64_in _ (by omega))) ?_
        refine EL_s rfl rfl rfl (os_assign rfl) ?_
        refine EL_nil ?_
        refine EQ_block_normal ?_
        refine EQ_round (J2, a0 + 2 * k, Es ++ [W], Ds2, S2) ?_ ?_ ?_ ?_
        · exact ⟨hJ.trans hI2, ho2.to (by simp), hE.snoc (by rw [hW.length_eq, List.length_append]; omega) hW2, hD2, by simp [ha, hW.length_eq]; omega, perm_to ((perm_mid hW).trans (perm_to hP (by simp : _ = Es.flatten ++ ((D1 ++ D2) ++ (Ds2.flatten ++ R))))) (by simp)⟩
        · exact (by dsimp only; simp; omega)
        · exact ⟨rfl, rfl, rfl, rfl, rfl, (congrArg (fun z => some (Value.int .i64 z)) (by omega)), trivial⟩
        · exact fun w h => h
      · try simp only [decide_eq_true_eq, decide_eq_false_iff_not, Bool.not_eq_true', Bool.not_eq_false'] at h
        refine EW_exit ?_
        refine EQ_then_exit (EQ_then_exit (EQ_block_exit (?_)))
        refine EQ_then (EQ_wp ?_)
        refine EW_seq_cut (σ := Gh × List PF × Seg) (fun ⟨J, R1, S⟩ => [(0, .slice a m c), (1, .int .i64 (m : Int)), (2, .func (.func 17) #[] #[]), (6, .int .i64 (k : Int))]) (fun ⟨J, R1, S⟩ => J) (fun ⟨J, R1, S⟩ => S :: L0) (fun ⟨J, R1, S⟩ => I0.le J ∧ FOwn pcells 53 J a m c S (Es.flatten ++ R1) ∧ Sorted R1 ∧ R1.length < 2 * k ∧ (Es.flatten ++ R1).Perm ps) ?_ ?_
        · skip
          refine EW_seq ?_
          -- region 13  zsortanyfunc.go:352
          refine EW_region ?_
          refine EL_s rfl rfl rfl (os_move rfl) ?_
          refine EL_s rfl rfl rfl (os_move rfl) ?_
          refine EL_s rfl rfl rfl (os_add_in rfl rfl (IntWalk.i64_in _ (by omega))) ?_
          refine EL_s rfl rfl rfl (os_assign rfl) ?_
          refine EL_nil ?_
          refine EQ_then (EQ_wp ?_)
          refine EW_seq ?_
          -- region 14  zsortanyfunc.go:352
          refine EW_region ?_
          refine EL_s rfl rfl rfl (os_move rfl) ?_
          refine EL_s rfl rfl rfl (os_move rfl) ?_
          refine EL_s rfl rfl rfl (os_lss rfl rfl) ?_
          refine EL_nil ?_
          refine EQ_then (EQ_wp ?_)
          refine EW_cond rfl (fun h => ?_) (fun h => ?_)
          · try simp only [decide_eq_true_eq, decide_eq_false_iff_not, Bool.not_eq_true', Bool.not_eq_false'] at h
            rcases blk_one hD (by omega) with rfl | ⟨D, rfl, l1, s1⟩
            · simp only [List.flatten_nil, List.length_nil] at e1; omega
            simp only [List.flatten_cons, List.flatten_nil, List.append_nil, List.length_append] at few e1
            -- region 15  zsortanyfunc.go:353
            refine EW_region ?_
            refine EL_s rfl rfl rfl (os_move rfl) ?_
            refine EL_s rfl rfl rfl (os_move rfl) ?_
            refine EL_s rfl rfl rfl (os_move rfl) ?_
            refine EL_s rfl rfl rfl (os_move rfl) ?_
            refine EL_s rfl rfl rfl (os_move rfl) ?_
            refine EL_x rfl rfl (ox_turn (vs := [_, _, _, _, _]) body43 rfl pick0 (s_merge _ (pre := Es.flatten) (A := D) (B := R) (post := []) (ho.to (by simp)) _ _ _ (by omega) (by omega) (by omega) (by omega) (by omega) s1 hR2 (Nat.le_refl _))) ?_; rintro J2 L2 v2 hI2 ⟨S2, rfl, W, rfl, ho2, hW, hW2⟩
            refine EL_nil ?_
            refine EQ_cut (J2, W, S2) ?_ ?_ ?_
            · exact ⟨hJ.trans hI2, ho2.to (by simp), hW2, by rw [hW.length_eq, List.length_append]; omega, perm_to ((perm_mid (X := Es.flatten) (Z := []) hW).trans (perm_to hP (by simp))) (by simp)⟩
            · exact ⟨rfl, rfl, rfl, rfl, trivial⟩
            · exact fun w h => h
          · try simp only [decide_eq_true_eq, decide_eq_false_iff_not, Bool.not_eq_true', Bool.not_eq_false'] at h
            refine EW_skip ?_
            refine EQ_cut (J, Ds.flatten ++ R, S) ?_ ?_ ?_
            · exact ⟨hJ, ho, blk_sorted hD (by omega) hR2 (by omega), by rw [List.length_append]; omega, hP⟩
            · exact ⟨rfl, rfl, rfl, rfl, trivial⟩
            · exact fun w h => h
        · rintro ⟨J, R1, S⟩ ⟨hJ, ho, hR3, hR1, hP⟩
          -- region 16  zsortanyfunc.go:355
          refine EW_region ?_
          refine EL_s rfl rfl rfl (os_move rfl) ?_
          refine EL_s rfl rfl rfl (os_mul_in rfl rfl (IntWalk.i64_in _ (by omega))) ?_
          refine EL_s rfl rfl rfl (os_assign rfl) ?_
          refine EL_nil ?_
          refine EQ_block_normal ?_
          refine EQ_round (J, 2 * k, Es, R1, S) ?_ ?_ ?_ ?_
          · exact ⟨hJ, ho, hE, hR1, hR3, hP, by omega⟩
          · exact (by dsimp only; omega)
          · exact ⟨rfl, rfl, rfl, (congrArg (fun z => some (Value.int .i64 z)) (by omega)), trivial⟩
          · exact fun w h => h
    · try simp only [decide_eq_true_eq, decide_eq_false_iff_not, Bool.not_eq_true', Bool.not_eq_false'] at h
      refine EW_exit ?_
      refine EQ_then_exit (EQ_then_exit (EQ_block_exit (?_)))
      exact px_ret0 _ Try.results37  hJ ((Incl.refl _).cons _) ⟨Ds.flatten ++ R, rfl, ho, hP, blk_sorted hD (by omega) hR2 (by omega)⟩ (.inr rfl)

theorem s_SortStable {I : Gh} {L : List Seg} {a : Option Addr} {m c : Nat} {S0 : Seg} {ps : List PF} (ho : FOwn pcells 53 I a m c S0 (ps)) : PM Try.prog 28 #[.slice a m c, .func (.func 17) #[] #[]] I L S0 fun K S v => ∃ qs, v = .tuple #[] ∧ FOwn pcells 53 K a m c S (qs) ∧ qs.Perm ps ∧ Sorted qs := by
  refine PM.of (n := 9) Try.func28 rfl Try.ntmps28 rfl fun I0 L0 hI0 hL0 => ?_
  have ho := ho.mono hI0
  -- region 0  sort.go:38
  refine EW_region ?_
  refine EL_s rfl rfl rfl (os_move rfl) ?_
  refine EL_s rfl rfl rfl (os_move rfl) ?_
  refine EL_s rfl rfl rfl (os_len rfl sl28) ?_
  refine EL_s rfl rfl rfl (os_move rfl) ?_
  refine EL_x rfl rfl (ox_turn (vs := [_, _, _]) body37 rfl pick0 (s_stable ho)) ?_; rintro J2 L2 v2 hI2 ⟨S2, rfl, qs, rfl, ho2, hP, hS⟩
  refine EL_nil ?_
  exact px_ret0 _ Try.results28  hI2 ((Incl.refl _).cons _) ⟨qs, rfl, ho2, hP, hS⟩ (.inr rfl)


end Go.Proofs.Ytodkbhbbdnjlcaa
