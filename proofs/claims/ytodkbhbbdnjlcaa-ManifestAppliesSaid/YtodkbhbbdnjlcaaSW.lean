/- Proved here: the part SW of the proof that the law of this seat returns true for every input; no condition. -/
import Derived.Test.YtodkbhbbdnjlcaaSQ
set_option maxRecDepth 20000
set_option linter.unusedVariables false
set_option linter.unusedSimpArgs false
namespace Go.Proofs.Ytodkbhbbdnjlcaa
open Go Go.Gl

theorem s_swapRange {I : Gh} {L : List Seg} {a : Option Addr} {m c : Nat} {S0 : Seg} {pre X M Y post : List PF} (ho : FOwn pcells 53 I a m c S0 (pre ++ (X ++ (M ++ (Y ++ (post)))))) (g : Value) (p q z : Int) (hp : p = pre.length) (hq : q = pre.length + X.length + M.length) (hz : z = X.length) (hl : Y.length = X.length) : PM Try.prog 46 #[.slice a m c, .int .i64 p, .int .i64 q, .int .i64 z, g] I L S0 fun K S v => v = .tuple #[] ∧ FOwn pcells 53 K a m c S (pre ++ (Y ++ (M ++ (X ++ (post))))) := by
  refine PM.of (n := 38) Try.func46 rfl Try.ntmps46 rfl fun I0 L0 hI0 hL0 => ?_
  have ho := ho.mono hI0
  have few := ho.few
  have e1 := ho.len
  simp only [List.length_append] at few e1
  refine EW_seq ?_
  -- region 0  zsortanyfunc.go:330
  refine EW_region ?_
  refine EL_s rfl rfl rfl (os_assign rfl) ?_
  refine EL_nil ?_
  refine EQ_then (EQ_wp ?_)
  refine EW_block ?_
  refine EW_loop (σ := Nat × List PF × List PF × List PF × List PF × Seg) (fun ⟨k, X1, X2, Y1, Y2, S⟩ => [(0, .slice a m c), (1, .int .i64 p), (2, .int .i64 q), (3, .int .i64 z), (10, .int .i64 (k : Int))]) (fun ⟨k, X1, X2, Y1, Y2, S⟩ => I0) (fun ⟨k, X1, X2, Y1, Y2, S⟩ => S :: L0) (fun ⟨k, X1, X2, Y1, Y2, S⟩ => FOwn pcells 53 I0 a m c S (pre ++ (Y1 ++ (X2 ++ (M ++ (X1 ++ (Y2 ++ (post))))))) ∧ X = X1 ++ X2 ∧ Y = Y1 ++ Y2 ∧ X1.length = k ∧ Y1.length = k) (fun ⟨k, X1, X2, Y1, Y2, S⟩ => X2.length) (0, [], X, [], Y, S0) ⟨by simpa using ho, rfl, rfl, rfl, rfl⟩ (by exact ⟨rfl, rfl, rfl, rfl, rfl, trivial⟩) (fun w h => h) ?_
  rintro ⟨k, X1, X2, Y1, Y2, S⟩ ⟨ho, hX, hY, h1, h2⟩
  have lX := congrArg List.length hX
  have lY := congrArg List.length hY
  rw [List.length_append] at lX lY
  refine EW_seq ?_
  refine EW_seq ?_
  -- region 1  zsortanyfunc.go:330
  refine EW_region ?_
  refine EL_s rfl rfl rfl (os_move rfl) ?_
  refine EL_s rfl rfl rfl (os_move rfl) ?_
  refine EL_s rfl rfl rfl (os_lss rfl rfl) ?_
  refine EL_nil ?_
  refine EQ_then (EQ_wp ?_)
  refine EW_cond rfl (fun h => ?_) (fun h => ?_)
  · try simp only [decide_eq_true_eq, decide_eq_false_iff_not, Bool.not_eq_true', Bool.not_eq_false'] at h
    refine EW_skip ?_
    refine EQ_then (EQ_wp ?_)
    refine EW_seq ?_
    refine EW_block ?_
    obtain ⟨x, X3, rfl⟩ := cons_of (l := X2) (by omega)
    obtain ⟨y, Y3, rfl⟩ := cons_of (l := Y2) (by omega)
    have hc : pre ++ (Y1 ++ ((x :: X3) ++ (M ++ (X1 ++ ((y :: Y3) ++ (post)))))) = (pre ++ Y1) ++ x :: ((X3 ++ (M ++ X1)) ++ y :: (Y3 ++ post)) := by simp
    have i1 : pre.length + k = (pre ++ Y1).length := by simp [h2]
    have i2 : pre.length + X.length + M.length + k = (pre ++ Y1).length + 1 + (X3 ++ (M ++ X1)).length := by simp at lX ⊢; omega
    have hx := get_at hc i1
    have hy := get_at2 hc i2
    -- region 3 DRAWN  zsortanyfunc.go:331
    refine EW_draw ([]) [.s, .s, .s, .s, .r, .r, .r, .r, .s, .s, .s, .s, .s, .s, .s, .s, .s, .s, .s, .s, .s, .y, .s, .x] [0, 1, 2, 3, 4, 5, 6, 7, 8, 9, 10, 11, 12, 13, 14, 15, 16, 17, 18, 19, 20, 21, 22, 23] mixed (by kernel_rfl) (by kernel_rfl) rfl ?_
    refine EP_s rfl rfl rfl rfl rfl (by exact (os_move rfl)) ?_
    refine EP_s rfl rfl rfl rfl rfl (by exact (os_move rfl)) ?_
    refine EP_s rfl rfl rfl rfl rfl (by exact (os_move rfl)) ?_
    refine EP_s rfl rfl rfl rfl rfl (by exact (os_add_in rfl rfl (IntWalk.i64_in _ (by omega)))) ?_
    refine EP_r rfl rfl rfl rfl rfl (Incl.nil _) (by exact (os_move rfl)) ?_
    refine EP_r rfl rfl rfl rfl rfl (Incl.nil _) (by exact (os_move rfl)) ?_
    refine EP_r rfl rfl rfl rfl rfl (Incl.nil _) (by exact (os_move rfl)) ?_
    refine EP_r rfl rfl rfl rfl rfl (Incl.nil _) (by exact (os_add_in rfl rfl (IntWalk.i64_in _ (by omega)))) ?_
    refine EP_s rfl rfl rfl rfl rfl (by exact (os_move rfl)) ?_
    refine EP_s rfl rfl rfl rfl rfl (by exact (os_move rfl)) ?_
    refine EP_s rfl rfl rfl rfl rfl (by exact (os_move rfl)) ?_
    refine EP_s rfl rfl rfl rfl rfl (by exact (os_add_in rfl rfl (IntWalk.i64_in _ (by omega)))) ?_
    refine EP_s rfl rfl rfl rfl rfl (by exact (os_at ((pre.length + X.length + M.length + k)) rfl rfl (by omega) sl28 (by omega) ((ho.row' (L := L0)).some (by omega)))) ?_
    refine EP_s rfl rfl rfl rfl rfl (by exact (os_load_agg (cs := pcells y) rfl agg53 (ho.get hy))) ?_
    refine EP_s rfl rfl rfl rfl rfl (by exact (os_move rfl)) ?_
    refine EP_s rfl rfl rfl rfl rfl (by exact (os_move rfl)) ?_
    refine EP_s rfl rfl rfl rfl rfl (by exact (os_move rfl)) ?_
    refine EP_s rfl rfl rfl rfl rfl (by exact (os_add_in rfl rfl (IntWalk.i64_in _ (by omega)))) ?_
    refine EP_s rfl rfl rfl rfl rfl (by exact (os_at ((pre.length + k)) rfl rfl (by omega) sl28 (by omega) ((ho.row' (L := L0)).some (by omega)))) ?_
    refine EP_s rfl rfl rfl rfl rfl (by exact (os_load_agg (cs := pcells x) rfl agg53 (ho.get hx))) ?_
    refine EP_s rfl rfl rfl rfl rfl (by exact (os_at ((pre.length + k)) rfl rfl (by omega) sl28 (by omega) ((ho.row' (L := L0)).some (by omega)))) ?_
    refine EP_kz rfl rfl rfl rfl (by exact (ox_store_row rfl rfl sz53 (by rfl) (by rfl) ho.row (by omega) pick0)) (fun _ _ _ => Incl.nil _) ?_
    rintro L4 v4 ⟨S4, rfl, ho4⟩
    refine EP_s rfl rfl rfl rfl rfl (by exact (os_at ((pre.length + X.length + M.length + k)) rfl rfl (by omega) sl28 (by omega) ((ho.row' (L := L0)).some (by omega)))) ?_
    refine EP_z rfl rfl rfl rfl (by exact (ox_store_row rfl rfl sz53 (by rfl) (by rfl) ho4 (by omega) pick0)) ?_
    rintro L5 v5 ⟨S5, rfl, ho5⟩
    have ho6 := FOwn.swap (x := x) (y := y) ho ho5 (List.mem_of_getElem? hx) (List.mem_of_getElem? hy) ((swap_at hc i1 i2).trans (by simp : _ = pre ++ ((Y1 ++ [y]) ++ (X3 ++ (M ++ ((X1 ++ [x]) ++ (Y3 ++ (post))))))))
    refine EP_nil ?_
    refine EQ_block_normal ?_
    refine EQ_then (EQ_wp ?_)
    -- region 2  zsortanyfunc.go:330
    refine EW_region ?_
    refine EL_s rfl rfl rfl (os_move rfl) ?_
    refine EL_s rfl rfl rfl (os_add_in rfl rfl (IntWalk.i64_in _ (by omega))) ?_
    refine EL_s rfl rfl rfl (os_assign rfl) ?_
    refine EL_nil ?_
    refine EQ_round (k + 1, X1 ++ [x], X3, Y1 ++ [y], Y3, S5) ?_ ?_ ?_ ?_
    · exact ⟨ho6, by rw [hX]; simp, by rw [hY]; simp, by simp [h1], by simp [h2]⟩
    · exact (by simp)
    · exact ⟨rfl, rfl, rfl, rfl, rfl, trivial⟩
    · exact fun w h => h
  · try simp only [decide_eq_true_eq, decide_eq_false_iff_not, Bool.not_eq_true', Bool.not_eq_false'] at h
    refine EW_exit ?_
    refine EQ_then_exit (EQ_then_exit (EQ_block_exit (?_)))
    obtain rfl : X2 = [] := List.eq_nil_of_length_eq_zero (by omega)
    obtain rfl : Y2 = [] := List.eq_nil_of_length_eq_zero (by simp at lX lY; omega)
    exact px_ret0 _ Try.results46  (.refl _) ((Incl.refl _).cons _) ⟨rfl, by rw [hX, hY]; simpa using ho⟩ (.inr rfl)


end Go.Proofs.Ytodkbhbbdnjlcaa
