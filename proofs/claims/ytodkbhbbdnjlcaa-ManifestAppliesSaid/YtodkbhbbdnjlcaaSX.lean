/- Proved here: the part SX of the proof that the law of this seat returns true for every input; no condition. -/
import Derived.Test.YtodkbhbbdnjlcaaSW
set_option maxRecDepth 20000
set_option linter.unusedVariables false
set_option linter.unusedSimpArgs false
namespace Go.Proofs.Ytodkbhbbdnjlcaa
open Go Go.Gl

theorem s_rotate {I : Gh} {L : List Seg} {a : Option Addr} {m c : Nat} {S0 : Seg} {pre X Y post : List PF} (ho : FOwn pcells 53 I a m c S0 (pre ++ (X ++ (Y ++ (post))))) (g : Value) (lo mid hi : Int) (g1 : lo = pre.length) (g2 : mid = pre.length + X.length) (g3 : hi = mid + Y.length) (gX : 0 < X.length) (gY : 0 < Y.length) : PM Try.prog 45 #[.slice a m c, .int .i64 lo, .int .i64 mid, .int .i64 hi, g] I L S0 fun K S v => v = .tuple #[] ∧ FOwn pcells 53 K a m c S (pre ++ (Y ++ (X ++ (post)))) := by
  refine PM.of (n := 58) Try.func45 rfl Try.ntmps45 rfl fun I0 L0 hI0 hL0 => ?_
  have ho := ho.mono hI0
  have few := ho.few
  have e1 := ho.len
  simp only [List.length_append] at few e1
  refine EW_seq ?_
  -- region 0  zsortanyfunc.go:465
  refine EW_region ?_
  refine EL_s rfl rfl rfl (os_move rfl) ?_
  refine EL_s rfl rfl rfl (os_move rfl) ?_
  refine EL_s rfl rfl rfl (os_sub_in rfl rfl (IntWalk.i64_in _ (by omega))) ?_
  refine EL_s rfl rfl rfl (os_assign rfl) ?_
  refine EL_nil ?_
  refine EQ_then (EQ_wp ?_)
  refine EW_seq ?_
  -- region 1  zsortanyfunc.go:466
  refine EW_region ?_
  refine EL_s rfl rfl rfl (os_move rfl) ?_
  refine EL_s rfl rfl rfl (os_move rfl) ?_
  refine EL_s rfl rfl rfl (os_sub_in rfl rfl (IntWalk.i64_in _ (by omega))) ?_
  refine EL_s rfl rfl rfl (os_assign rfl) ?_
  refine EL_nil ?_
  refine EQ_then (EQ_wp ?_)
  refine EW_seq ?_
  refine EW_block ?_
  refine EW_loop (σ := Gh × Nat × Nat × List PF × List PF × List PF × List PF × Seg) (fun ⟨J, i, j, P, A, B, Q, S⟩ => [(0, .slice a m c), (2, .int .i64 mid), (4, g), (10, .int .i64 (i : Int)), (11, .int .i64 (j : Int))]) (fun ⟨J, i, j, P, A, B, Q, S⟩ => J) (fun ⟨J, i, j, P, A, B, Q, S⟩ => S :: L0) (fun ⟨J, i, j, P, A, B, Q, S⟩ => I0.le J ∧ FOwn pcells 53 J a m c S (pre ++ (P ++ (A ++ (B ++ (Q ++ (post)))))) ∧ P ++ (B ++ (A ++ Q)) = Y ++ X ∧ A.length = i ∧ B.length = j ∧ 0 < i ∧ 0 < j ∧ mid = pre.length + P.length + i) (fun ⟨J, i, j, P, A, B, Q, S⟩ => i + j) (I0, X.length, Y.length, [], X, Y, [], S0) ⟨.refl _, by simpa using ho, by simp, rfl, rfl, gX, gY, by simp; omega⟩ (by exact ⟨rfl, rfl, rfl, (congrArg (fun z => some (Value.int .i64 z)) (by omega)), (congrArg (fun z => some (Value.int .i64 z)) (by omega)), trivial⟩) (fun w h => h) ?_
  rintro ⟨J, i, j, P, A, B, Q, S⟩ ⟨hJ, ho, hE, h1, h2, h3, h4, h5⟩
  have few := ho.few
  have e1 := ho.len
  simp only [List.length_append] at few e1
  refine EW_seq ?_
  refine EW_seq ?_
  -- region 2  zsortanyfunc.go:468
  refine EW_region ?_
  refine EL_s rfl rfl rfl (os_move rfl) ?_
  refine EL_s rfl rfl rfl (os_move rfl) ?_
  refine EL_s rfl rfl rfl (os_neq rfl rfl) ?_
  refine EL_nil ?_
  refine EQ_then (EQ_wp ?_)
  refine EW_cond rfl (fun h => ?_) (fun h => ?_)
  · try simp only [decide_eq_true_eq, decide_eq_false_iff_not, Bool.not_eq_true', Bool.not_eq_false'] at h
    refine EW_skip ?_
    refine EQ_then (EQ_wp ?_)
    refine EW_block ?_
    refine EW_seq ?_
    -- region 3  zsortanyfunc.go:469
    refine EW_region ?_
    refine EL_s rfl rfl rfl (os_move rfl) ?_
    refine EL_s rfl rfl rfl (os_move rfl) ?_
    refine EL_s rfl rfl rfl (os_gtr rfl rfl) ?_
    refine EL_nil ?_
    refine EQ_then (EQ_wp ?_)
    refine EW_cond rfl (fun h => ?_) (fun h => ?_)
    · try simp only [decide_eq_true_eq, decide_eq_false_iff_not, Bool.not_eq_true', Bool.not_eq_false'] at h
      refine EW_seq ?_
      obtain ⟨A1, A2, rfl, a1⟩ := split_at (l := A) (k := j) (by omega)
      simp only [List.length_append] at h1 few e1
      -- region 4  zsortanyfunc.go:470
      refine EW_region ?_
      refine EL_s rfl rfl rfl (os_move rfl) ?_
      refine EL_s rfl rfl rfl (os_move rfl) ?_
      refine EL_s rfl rfl rfl (os_move rfl) ?_
      refine EL_s rfl rfl rfl (os_sub_in rfl rfl (IntWalk.i64_in _ (by omega))) ?_
      refine EL_s rfl rfl rfl (os_move rfl) ?_
      refine EL_s rfl rfl rfl (os_move rfl) ?_
      refine EL_s rfl rfl rfl (os_move rfl) ?_
      refine EL_x rfl rfl (ox_turn (vs := [_, _, _, _, _]) body46 rfl pick0 (s_swapRange (pre := pre ++ P) (X := A1) (M := A2) (Y := B) (post := Q ++ post) (ho.to (by simp)) g _ _ _ (by simp; omega) (by simp; omega) (by omega) (by omega))) ?_; rintro J2 L2 v2 hI2 ⟨S2, rfl, rfl, ho2⟩
      refine EL_nil ?_
      refine EQ_then (EQ_wp ?_)
      -- region 5  zsortanyfunc.go:471
      refine EW_region ?_
      refine EL_s rfl rfl rfl (os_move rfl) ?_
      refine EL_s rfl rfl rfl (os_move rfl) ?_
      refine EL_s rfl rfl rfl (os_sub_in rfl rfl (IntWalk.i64_in _ (by omega))) ?_
      refine EL_s rfl rfl rfl (os_assign rfl) ?_
      refine EL_nil ?_
      refine EQ_block_normal ?_
      refine EQ_round (J2, i - j, j, P ++ B, A2, A1, Q, S2) ?_ ?_ ?_ ?_
      · exact ⟨hJ.trans hI2, ho2.to (by simp), by rw [← hE]; simp, by omega, by omega, by omega, by omega, by simp; omega⟩
      · exact (by dsimp only; omega)
      · exact ⟨rfl, rfl, rfl, (congrArg (fun z => some (Value.int .i64 z)) (by omega)), rfl, trivial⟩
      · exact fun w h => h
    · try simp only [decide_eq_true_eq, decide_eq_false_iff_not, Bool.not_eq_true', Bool.not_eq_false'] at h
      refine EW_seq ?_
      obtain ⟨B1, B2, rfl, b1⟩ := split_at (l := B) (k := j - i) (by omega)
      simp only [List.length_append] at h2 few e1
      -- region 6  zsortanyfunc.go:473
      refine EW_region ?_
      refine EL_s rfl rfl rfl (os_move rfl) ?_
      refine EL_s rfl rfl rfl (os_move rfl) ?_
      refine EL_s rfl rfl rfl (os_move rfl) ?_
      refine EL_s rfl rfl rfl (os_sub_in rfl rfl (IntWalk.i64_in _ (by omega))) ?_
      refine EL_s rfl rfl rfl (os_move rfl) ?_
      refine EL_s rfl rfl rfl (os_move rfl) ?_
      refine EL_s rfl rfl rfl (os_add_in rfl rfl (IntWalk.i64_in _ (by omega))) ?_
      refine EL_s rfl rfl rfl (os_move rfl) ?_
      refine EL_s rfl rfl rfl (os_sub_in rfl rfl (IntWalk.i64_in _ (by omega))) ?_
      refine EL_s rfl rfl rfl (os_move rfl) ?_
      refine EL_s rfl rfl rfl (os_move rfl) ?_
      refine EL_x rfl rfl (ox_turn (vs := [_, _, _, _, _]) body46 rfl pick0 (s_swapRange (pre := pre ++ P) (X := A) (M := B1) (Y := B2) (post := Q ++ post) (ho.to (by simp)) g _ _ _ (by simp; omega) (by simp; omega) (by omega) (by omega))) ?_; rintro J2 L2 v2 hI2 ⟨S2, rfl, rfl, ho2⟩
      refine EL_nil ?_
      refine EQ_then (EQ_wp ?_)
      -- region 7  zsortanyfunc.go:474
      refine EW_region ?_
      refine EL_s rfl rfl rfl (os_move rfl) ?_
      refine EL_s rfl rfl rfl (os_move rfl) ?_
      refine EL_s rfl rfl rfl (os_sub_in rfl rfl (IntWalk.i64_in _ (by omega))) ?_
      refine EL_s rfl rfl rfl (os_assign rfl) ?_
      refine EL_nil ?_
      refine EQ_block_normal ?_
      refine EQ_round (J2, i, j - i, P, B2, B1, A ++ Q, S2) ?_ ?_ ?_ ?_
      · exact ⟨hJ.trans hI2, ho2.to (by simp), by rw [← hE]; simp, by omega, by omega, by omega, by omega, by omega⟩
      · exact (by dsimp only; omega)
      · exact ⟨rfl, rfl, rfl, rfl, (congrArg (fun z => some (Value.int .i64 z)) (by omega)), trivial⟩
      · exact fun w h => h
  · try simp only [decide_eq_true_eq, decide_eq_false_iff_not, Bool.not_eq_true', Bool.not_eq_false'] at h
    refine EW_exit ?_
    refine EQ_then_exit (EQ_then_exit (EQ_block_exit (?_)))
    refine EQ_then (EQ_wp ?_)
    -- region 8  zsortanyfunc.go:478
    refine EW_region ?_
    refine EL_s rfl rfl rfl (os_move rfl) ?_
    refine EL_s rfl rfl rfl (os_move rfl) ?_
    refine EL_s rfl rfl rfl (os_move rfl) ?_
    refine EL_s rfl rfl rfl (os_sub_in rfl rfl (IntWalk.i64_in _ (by omega))) ?_
    refine EL_s rfl rfl rfl (os_move rfl) ?_
    refine EL_s rfl rfl rfl (os_move rfl) ?_
    refine EL_s rfl rfl rfl (os_move rfl) ?_
    refine EL_x rfl rfl (ox_turn (vs := [_, _, _, _, _]) body46 rfl pick0 (s_swapRange (pre := pre ++ P) (X := A) (M := []) (Y := B) (post := Q ++ post) (ho.to (by simp)) g _ _ _ (by simp; omega) (by simp; omega) (by omega) (by omega))) ?_; rintro J2 L2 v2 hI2 ⟨S2, rfl, rfl, ho2⟩
    refine EL_nil ?_
    exact px_ret0 _ Try.results45  (hJ.trans hI2) ((Incl.refl _).cons _) ⟨rfl, ho2.to (by rw [show (pre ++ P) ++ (B ++ ([] ++ (A ++ (Q ++ post)))) = pre ++ ((P ++ (B ++ (A ++ Q))) ++ post) from by simp, hE]; simp)⟩ (.inr rfl)


end Go.Proofs.Ytodkbhbbdnjlcaa
