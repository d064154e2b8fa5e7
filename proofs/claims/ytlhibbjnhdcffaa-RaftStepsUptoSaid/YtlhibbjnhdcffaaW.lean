/- Proved here: the part W of the proof that the law of this seat returns true for every input; no condition. -/
import Derived.Test.YtlhibbjnhdcffaaV
import Derived.Test.YtlhibbjnhdcffaaC
set_option maxRecDepth 20000
set_option linter.unusedVariables false
set_option linter.unusedSimpArgs false
namespace Go.Proofs.Ytlhibbjnhdcffaa
open Go Go.Gl

theorem uptoI_all (zs : List Nat) : uptoI (fun j => zs[j]?.getD 0) zs.length = zs := by
  apply List.ext_getElem
  · simp [uptoI]
  · intro i h1 h2
    simp [uptoI, h2]
/-- slices.AppendSeq over a slice's values: a slice of one's own that holds the same. -/
theorem s_AppendSeq {I : Gh} {L : List Seg} {b : Nat} {s : Sl Nat} (hb : (b, Obj.cells #[s.v] 23) ∈ L.flatten) (hs : FRow rU64 I L s) (hpos : 0 < s.xs.length) (h12 : s.xs.length ≤ 12) :
    PN Try.prog 147 #[.slice none 0 0, .func (.func 139) #[] #[.pointer (some ⟨b, 0, none⟩)]] I L [] fun K Ss' v => ∃ (y : Sl Nat) (y_ : Seg), v = y.v ∧ Ss' = [y_] ∧ OwnR rU64 K 22 y y_ ∧ y.xs = s.xs := by
  intro J M hJ hM w hw
  have hs := FRow.mono hs hJ hM
  have hbm := hM.mem hb
  have hw' : St J M w := hw
  have hl := FRow.len hs
  have hf := hs.few
  simp only [rU64] at hf
  obtain ⟨a, ha⟩ : ∃ a, s.h.a = some a := Option.isSome_iff_exists.1 (FRow.some hs (by omega))
  have hbw : w.heap[b]? = some (.cells #[s.v] 23 (0, 0)) := hw'.own (b, _) hbm
  obtain ⟨x0, hx0⟩ := get_some (l := s.xs) (k := 0) hpos
  have hspot : a.spot = none := by
    have := FRow.spot hs hx0
    simpa [ha, opA, Addr.add] using this
  have hcell : ∀ j, j < s.xs.length → w.cell? ⟨a.block, a.off + j, none⟩ = some (.int .u64 ((s.xs[j]?.getD 0 : Nat) : Int)) := fun j hj => by
    obtain ⟨x, hx⟩ := get_some (l := s.xs) (k := j) hj
    have h1 := (FRow.whole hs hx).cell (.refl J) (.refl M) hw' 0 (.int .u64 (x : Int)) rfl
    rw [ha] at h1
    simp only [opA, Option.getD_some, rU64, Nat.mul_one] at h1
    rw [addr_add a hspot, addr_add _ rfl] at h1
    simpa [hx] using h1
  have hBs : w.cell? ⟨b, 0, none⟩ = some (.slice (some ⟨a.block, a.off, none⟩) s.xs.length s.h.c) := by
    have : a = ⟨a.block, a.off, none⟩ := by cases a; simp_all
    simp [World.cell?, hbw, Sl.v, ha, ← hl]
    exact this
  have hablt : a.block < w.heap.size := by
    have := hcell 0 hpos
    unfold World.cell? at this
    split at this
    · rename_i hh; exact (Array.getElem?_eq_some_iff.1 hh).1
    · cases this
  have hblt : b < w.heap.size := (Array.getElem?_eq_some_iff.1 hbw).1
  refine ((callsIn_wide (n := 9)).1 (apnSeq_in Fence.wide 9 trivial rfl (by omega) 139 #[.pointer (some ⟨b, 0, none⟩)] trivial body139 s.xs (FRow.max hs) hf w ?_)).mono ?_
  · intro l J' W hW hY h0 _
    have hB2 : W.cell? ⟨b, 0, none⟩ = some (.slice (some ⟨a.block, a.off, none⟩) s.xs.length s.h.c) := (hW.cell (p := ⟨b, 0, none⟩) hblt).trans hBs
    refine (vals_in Fence.wide 8 trivial rfl (by omega) l b w.heap.size a.block a.off s.xs.length s.h.c s.xs (by omega) hablt J' (fun _ _ => False) (fun pre x W hJ hl => (hY pre x W hJ hl).mono fun _ _ h => .inl h) W hB2
      (fun j hj => (hW.cell (p := ⟨a.block, a.off + j, none⟩) hablt).trans (hcell j hj)) h0).mono ?_
    rintro e W' ⟨he, ⟨ys, rfl, hj⟩ | ⟨pre, _, hj⟩⟩
    · exact ⟨he, by rw [uptoI_all] at hj; exact hj⟩
    · exact hj.elim
  · rintro e w' ⟨v, rfl, hrow, hbel⟩
    have hfl : (s.xs.map rU64.cells).flatten = s.xs.map fun x => Value.int .u64 ((x : Nat) : Int) := by
      have : ∀ l : List Nat, (l.map rU64.cells).flatten = l.map fun x => Value.int .u64 ((x : Nat) : Int) := fun l => by
        induction l with
        | nil => rfl
        | cons x r ih => simp only [List.map_cons, List.flatten_cons, ih]; rfl
      exact this _
    rcases St.row hw' hbel hrow with ⟨rfl, h0, hst⟩ | ⟨g, cap, cur, rfl, hst, hr1, hr2, hr3, hr4⟩
    · omega
    · exact ⟨J, _, _, rfl, hst, .refl J, [[(g, .cells cur 22)]], rfl, ⟨⟨some ⟨g, 0, none⟩, s.xs.length, cap⟩, s.xs⟩, _, rfl, rfl, ⟨⟨by simp, fun q hq => (by obtain ⟨y, _, rfl⟩ := List.mem_map.1 hq; exact rU64.len y), .inr ⟨g, cur, rfl, rfl, hr1, hr2, hr3, by rw [hfl]; exact hr4⟩⟩, hs.ok, hs.few⟩, rfl⟩
/-- In order, but for what stands at j. -/
def SortedTo (ys : List Nat) (i j : Nat) : Prop := ∀ p q, p < q → q < i → q ≠ j → ys.getD p 0 ≤ ys.getD q 0
theorem swap_get {ys : List Nat} {j x y : Nat} (hj : 0 < j) (hx : ys[j - 1]? = some x) (hy : ys[j]? = some y) (k : Nat) :
    ((ys.set j x).set (j - 1) y).getD k 0 = if k = j - 1 then y else if k = j then x else ys.getD k 0 := by
  have h1 := (List.getElem?_eq_some_iff.1 hx).1
  have h2 := (List.getElem?_eq_some_iff.1 hy).1
  simp only [List.getD, List.getElem?_set]
  by_cases hk : k = j - 1
  · subst hk
    rw [if_pos rfl, if_pos rfl, if_pos (by rw [List.length_set]; exact h1)]; rfl
  · rw [if_neg (fun h => hk h.symm), if_neg hk]
    by_cases hk2 : k = j
    · subst hk2
      rw [if_pos rfl, if_pos rfl, if_pos h2]; rfl
    · rw [if_neg (fun h => hk2 h.symm), if_neg hk2]
theorem swap_step {ys : List Nat} {i j x y : Nat} (hj : 0 < j) (hji : j < i) (hx : ys[j - 1]? = some x) (hy : ys[j]? = some y) (hlt : y < x) (h : SortedTo ys i j) : SortedTo ((ys.set j x).set (j - 1) y) i (j - 1) := by
  intro p q hpq hq hne
  have gx : ys.getD (j - 1) 0 = x := by simp [List.getD, hx]
  have gy : ys.getD j 0 = y := by simp [List.getD, hy]
  rw [swap_get hj hx hy, swap_get hj hx hy]
  rw [if_neg hne]
  by_cases hqj : q = j
  · rw [if_pos hqj]
    by_cases hp : p = j - 1
    · rw [if_pos hp]; omega
    · rw [if_neg hp, if_neg (by omega), ← gx]
      exact h p (j - 1) (by omega) (by omega) (by omega)
  · rw [if_neg hqj]
    by_cases hp : p = j - 1
    · rw [if_pos hp, ← gy]; exact h j q (by omega) hq hqj
    · rw [if_neg hp]
      by_cases hp2 : p = j
      · rw [if_pos hp2, ← gx]; exact h (j - 1) q (by omega) hq hqj
      · rw [if_neg hp2]; exact h p q hpq hq hqj
theorem swap_perm {ys : List Nat} {j x y : Nat} (hj : 0 < j) (hx : ys[j - 1]? = some x) (hy : ys[j]? = some y) : ((ys.set j x).set (j - 1) y).Perm ys := by
  have h1 := (List.getElem?_eq_some_iff.1 hx).1
  have h2 := (List.getElem?_eq_some_iff.1 hy).1
  have hs : ys = ys.take (j - 1) ++ x :: y :: ys.drop (j + 1) := by
    conv => lhs; rw [← List.take_append_drop (j - 1) ys, drop_of_get hx, show j - 1 + 1 = j by omega, drop_of_get hy]
  have hl : (ys.take (j - 1)).length = j - 1 := by simp; omega
  obtain ⟨A, hA⟩ : ∃ A, A = ys.take (j - 1) := ⟨_, rfl⟩
  obtain ⟨B, hB⟩ : ∃ B, B = ys.drop (j + 1) := ⟨_, rfl⟩
  rw [← hA, ← hB] at hs
  rw [← hA] at hl
  rw [hs]
  rw [List.set_append_right _ _ (by omega), List.set_append_right _ _ (by omega), hl, show j - (j - 1) = 1 by omega, Nat.sub_self]
  simp only [List.set_cons_succ, List.set_cons_zero]
  exact List.Perm.append_left A (List.Perm.swap _ _ _)
theorem SortedTo.all {ys : List Nat} {i j : Nat} (h : SortedTo ys (i + 1) j) (hji : j ≤ i) (he : j = 0 ∨ ∃ x y, ys[j - 1]? = some x ∧ ys[j]? = some y ∧ ¬ y < x) : SortedTo ys (i + 1) (i + 1) := by
  intro p q hpq hq _
  by_cases hqj : q = j
  · subst hqj
    rcases he with he | ⟨x, y, hx, hy, hn⟩
    · omega
    · have gx : ys.getD (q - 1) 0 = x := by simp [List.getD, hx]
      have gy : ys.getD q 0 = y := by simp [List.getD, hy]
      by_cases hp : p = q - 1
      · rw [hp, gx, gy]; omega
      · have := h p (q - 1) (by omega) (by omega) (by omega)
        omega
  · exact h p q hpq hq hqj
theorem SortedTo.pairwise {ys : List Nat} {i : Nat} (h : SortedTo ys i i) (hi : ys.length ≤ i) : ys.Pairwise (· ≤ ·) := by
  rw [List.pairwise_iff_getElem]
  intro p q hp hq hpq
  have := h p q hpq (by omega) (by omega)
  simpa [List.getD, hp, hq] using this
theorem s_isNaN {I : Gh} {L : List Seg} (x : Nat) : PC Try.prog 185 #[.int .u64 ((x : Nat) : Int)] I L fun K v => v = .bool (false) := by
  refine PC.of (n := 6) Try.func185 rfl Try.ntmps185 rfl fun I0 L0 hI0 hL0 => ?_
  refine EW_seq ?_
  -- region 0  cmp.go:63
  refine EW_region ?_
  refine EL_s rfl rfl rfl (os_assign rfl) ?_
  refine EL_nil ?_
  refine EQ_then (EQ_wp ?_)
  refine EW_seq ?_
  -- region 1  cmp.go:64
  refine EW_region ?_
  refine EL_s rfl rfl rfl (os_move rfl) ?_
  refine EL_s rfl rfl rfl (os_move rfl) ?_
  refine EL_s rfl rfl rfl (os_neq rfl rfl) ?_
  refine EL_s rfl rfl rfl (os_assign rfl) ?_
  refine EL_nil ?_
  refine EQ_then (EQ_wp ?_)
  refine EW_ret ?_
  exact pc_ret1 Try.results185 (rv_tmp rfl) (.refl _) (Incl.refl _) (by simp) (.inl rfl)

theorem s_Less {I : Gh} {L : List Seg} (x : Nat) (y : Nat) : PC Try.prog 172 #[.int .u64 ((x : Nat) : Int), .int .u64 ((y : Nat) : Int)] I L fun K v => v = .bool (decide (((x : Nat) : Int) < ((y : Nat) : Int))) := by
  refine PC.of (n := 17) Try.func172 rfl Try.ntmps172 rfl fun I0 L0 hI0 hL0 => ?_
  refine EW_seq ?_
  -- region 0  cmp.go:28
  refine EW_region ?_
  refine EL_s rfl rfl rfl (os_assign rfl) ?_
  refine EL_nil ?_
  refine EQ_then (EQ_wp ?_)
  refine EW_seq ?_
  -- region 1  cmp.go:29
  refine EW_region ?_
  refine EL_s rfl rfl rfl (os_move rfl) ?_
  refine EL_s rfl rfl rfl (os_call (vs := [(.int .u64 ((x : Nat) : Int))]) body185 rfl (s_isNaN x)) ?_
  refine EL_s rfl rfl rfl (os_move rfl) ?_
  refine EL_joint 4 11 (.bool ((false) && (!(false)))) ?_ ?_
  · skip
    refine ES_case (false) (fun hg7 => ?_) (fun hg7 => ?_)
    · have hg7_ := hg7
      try simp only [Bool.or_eq_true, Bool.and_eq_true, Bool.or_eq_false_iff, Bool.and_eq_false_iff, decide_eq_true_eq, decide_eq_false_iff_not, Bool.not_eq_true', Bool.not_eq_false', Int.natCast_inj, Int.ofNat_lt, Int.ofNat_le] at hg7_
      refine ES_yes (j := 2) (b := true) rfl rfl rfl hg7 rfl rfl (os_move rfl) ?_
      refine ES_yes (j := 2) (b := true) rfl rfl rfl hg7 rfl rfl (os_call (vs := [(.int .u64 ((y : Nat) : Int))]) body185 rfl (s_isNaN y)) ?_
      refine ES_yes (j := 2) (b := true) rfl rfl rfl hg7 rfl rfl (os_not rfl) ?_
      refine ES_s rfl rfl rfl (os_pick_t' rfl hg7 rfl) ?_
      exact ES_fin 4 rfl rfl (by rw [hg7]; rfl)
    · have hg7_ := hg7
      try simp only [Bool.or_eq_true, Bool.and_eq_true, Bool.or_eq_false_iff, Bool.and_eq_false_iff, decide_eq_true_eq, decide_eq_false_iff_not, Bool.not_eq_true', Bool.not_eq_false', Int.natCast_inj, Int.ofNat_lt, Int.ofNat_le] at hg7_
      refine ES_no rfl hg7 rfl rfl rfl rfl ?_
      refine ES_no rfl hg7 rfl rfl rfl rfl ?_
      refine ES_no rfl hg7 rfl rfl rfl rfl ?_
      refine ES_s rfl rfl rfl (os_pick_f' rfl hg7 rfl) ?_
      exact ES_fin 4 rfl rfl (by rw [hg7]; rfl)
  refine EL_s rfl rfl rfl (os_move rfl) ?_
  refine EL_joint 4 16 (.bool (((false) && (!(false))) || (decide (((x : Nat) : Int) < ((y : Nat) : Int))))) ?_ ?_
  · skip
    refine ES_case ((false) && (!(false))) (fun hg12 => ?_) (fun hg12 => ?_)
    · have hg12_ := hg12
      try simp only [Bool.or_eq_true, Bool.and_eq_true, Bool.or_eq_false_iff, Bool.and_eq_false_iff, decide_eq_true_eq, decide_eq_false_iff_not, Bool.not_eq_true', Bool.not_eq_false', Int.natCast_inj, Int.ofNat_lt, Int.ofNat_le] at hg12_
      refine ES_no rfl hg12 rfl rfl rfl rfl ?_
      refine ES_no rfl hg12 rfl rfl rfl rfl ?_
      refine ES_no rfl hg12 rfl rfl rfl rfl ?_
      refine ES_s rfl rfl rfl (os_pick_t' rfl hg12 rfl) ?_
      exact ES_fin 4 rfl rfl (by rw [hg12]; rfl)
    · have hg12_ := hg12
      try simp only [Bool.or_eq_true, Bool.and_eq_true, Bool.or_eq_false_iff, Bool.and_eq_false_iff, decide_eq_true_eq, decide_eq_false_iff_not, Bool.not_eq_true', Bool.not_eq_false', Int.natCast_inj, Int.ofNat_lt, Int.ofNat_le] at hg12_
      refine ES_yes (j := 7) (b := false) rfl rfl rfl hg12 rfl rfl (os_move rfl) ?_
      refine ES_yes (j := 7) (b := false) rfl rfl rfl hg12 rfl rfl (os_move rfl) ?_
      refine ES_yes (j := 7) (b := false) rfl rfl rfl hg12 rfl rfl (os_lss rfl rfl) ?_
      refine ES_s rfl rfl rfl (os_pick_f' rfl hg12 rfl) ?_
      exact ES_fin 4 rfl rfl (by rw [hg12]; rfl)
  refine EL_s rfl rfl rfl (os_assign rfl) ?_
  refine EL_nil ?_
  refine EQ_then (EQ_wp ?_)
  refine EW_ret ?_
  exact pc_ret1 Try.results172 (rv_tmp rfl) (.refl _) (Incl.refl _) (by simp) (.inl rfl)

theorem s_insertion {I : Gh} {L : List Seg} {data : Sl Nat} {Sdata : Seg} (hdata : OwnR rU64 I 22 data Sdata) (a : Nat) (b : Nat) (hp0 : a = 0) (hp1 : b = data.xs.length) (hp2 : b ≤ 12) : PN Try.prog 166 #[data.v, .int .i64 ((a : Nat) : Int), .int .i64 ((b : Nat) : Int)] I L ([Sdata]) fun K Ss' v => (∃ (ys : List Nat) (Sy : Seg), Ss' = [Sy] ∧ OwnR rU64 K 22 (Sl.mk data.h ys) Sy ∧ (ys.Perm data.xs ∧ ys.Pairwise (· ≤ ·))) ∧ v = .tuple #[] := by
  refine PN.of (n := 49) Try.func166 rfl Try.ntmps166 rfl fun I0 L0 hI0 hL0 => ?_
  refine EW_perm (nm_1 _ _) ?_
  have hdata := hdata.mono hI0
  have hl_data := OwnR.len hdata
  have hf_data := hdata.few
  simp only [rU64] at hf_data
  refine EW_seq ?_
  -- region 0  zsortordered.go:13
  refine EW_region ?_
  refine EL_s rfl rfl rfl (os_move rfl) ?_
  refine EL_s rfl rfl rfl (os_addn (p := a) (q := 1) rfl rfl (IntWalk.i64_in _ (by omega))) ?_
  refine EL_s rfl rfl rfl (os_assign rfl) ?_
  refine EL_nil ?_
  refine EQ_then (EQ_wp ?_)
  refine EW_block ?_
  refine EW_loop (σ := Nat × (List Nat) × Seg) (fun ⟨i, ys, S⟩ => [(0, ((Sl.mk data.h ys).v)), (1, (.int .i64 ((a : Nat) : Int))), (2, (.int .i64 ((b : Nat) : Int))), (6, (.int .i64 ((i : Nat) : Int)))]) (fun ⟨i, ys, S⟩ => I0) (fun ⟨i, ys, S⟩ => S :: L0) (fun ⟨i, ys, S⟩ => 1 ≤ i ∧ i ≤ 13 ∧ ys.Perm data.xs ∧ OwnR rU64 I0 22 (Sl.mk data.h ys) S ∧ SortedTo ys i i) (fun ⟨i, ys, S⟩ => 13 - i) (a + 1, data.xs, Sdata) ⟨by omega, by omega, .refl _, hdata, fun p q h1 h2 _ => by omega⟩ ⟨rfl, rfl, rfl, rfl, trivial⟩ (fun w h => h) ?_
  rintro ⟨i, ys, S⟩ ⟨hi1, hi2, hP, ho, hso⟩
  have hlp := hP.length_eq
  refine EW_seq ?_
  refine EW_seq ?_
  -- region 1  zsortordered.go:13
  refine EW_region ?_
  refine EL_s rfl rfl rfl (os_move rfl) ?_
  refine EL_s rfl rfl rfl (os_move rfl) ?_
  refine EL_s rfl rfl rfl (os_lss rfl rfl) ?_
  refine EL_nil ?_
  refine EQ_then (EQ_wp ?_)
  refine EW_cond rfl (fun hc12 => ?_) (fun hc12 => ?_)
  · have hb12 := hc12
    try simp only [Bool.or_eq_true, Bool.and_eq_true, Bool.or_eq_false_iff, Bool.and_eq_false_iff, decide_eq_true_eq, decide_eq_false_iff_not, Bool.not_eq_true', Bool.not_eq_false', Int.natCast_inj, Int.ofNat_lt, Int.ofNat_le] at hc12
    refine EW_skip ?_
    refine EQ_then (EQ_wp ?_)
    refine EW_seq ?_
    refine EW_block ?_
    refine EW_seq ?_
    -- region 3  zsortordered.go:14
    refine EW_region ?_
    refine EL_s rfl rfl rfl (os_move rfl) ?_
    refine EL_s rfl rfl rfl (os_assign rfl) ?_
    refine EL_nil ?_
    refine EQ_then (EQ_wp ?_)
    refine EW_block ?_
    refine EW_loop (σ := Nat × (List Nat) × Seg) (fun ⟨j, ys2, S2⟩ => [(0, ((Sl.mk data.h ys2).v)), (1, (.int .i64 ((a : Nat) : Int))), (2, (.int .i64 ((b : Nat) : Int))), (6, (.int .i64 ((i : Nat) : Int))), (7, (.int .i64 ((j : Nat) : Int)))]) (fun ⟨j, ys2, S2⟩ => I0) (fun ⟨j, ys2, S2⟩ => S2 :: L0) (fun ⟨j, ys2, S2⟩ => j ≤ i ∧ ys2.Perm data.xs ∧ OwnR rU64 I0 22 (Sl.mk data.h ys2) S2 ∧ SortedTo ys2 (i + 1) j) (fun ⟨j, ys2, S2⟩ => j) (i, ys, S) ⟨Nat.le_refl _, hP, ho, fun p q h1 h2 h3 => hso p q h1 (by omega) (by omega)⟩ ⟨rfl, rfl, rfl, rfl, rfl, trivial⟩ (fun w h => h) ?_
    rintro ⟨j, ys2, S2⟩ ⟨hj, hP2, ho2, hs2⟩
    have hlp2 := hP2.length_eq
    refine EW_seq ?_
    refine EW_seq ?_
    -- region 4 DRAWN  zsortordered.go:14
    refine EW_drawC [] [⟨[], some 16, [7], .s, 0⟩, ⟨[], some 17, [1], .s, 0⟩, ⟨[0, 1], some 18, [16, 17], .s, 3⟩, ⟨[2], some 19, [18], .s, 7⟩, ⟨[3], some 20, [0, 19], .s, 15⟩, ⟨[3], some 21, [7, 19], .s, 15⟩, ⟨[4, 5, 3], some 22, [20, 21, 19], .s, 63⟩, ⟨[6, 3], some 23, [22, 19], .s, 127⟩, ⟨[3], some 24, [0, 19], .s, 15⟩, ⟨[3], some 25, [7, 19], .s, 15⟩, ⟨[9, 3], some 26, [25, 19], .s, 527⟩, ⟨[8, 10, 3], some 27, [24, 26, 19], .s, 1807⟩, ⟨[11, 3], some 28, [27, 19], .s, 3855⟩, ⟨[7, 12, 3, 3], some 29, [23, 28, 19], .s, 8191⟩, ⟨[3, 13], some 30, [19, 29], .s, 16383⟩] [.s, .s, .s, .s, .s, .s, .s, .s, .s, .s, .s, .s, .s, .s, .s] [0, 1, 2, 3, 4, 5, 6, 7, 8, 9, 10, 11, 12, 13, 14] mixed (by kernel_rfl) (by kernel_rfl) (by kernel_rfl) rfl rfl ?_
    refine EP_s rfl rfl rfl rfl rfl (by exact (os_move rfl)) ?_
    refine EP_s rfl rfl rfl rfl rfl (by exact (os_move rfl)) ?_
    refine EP_s rfl rfl rfl rfl rfl (by exact (os_gtr rfl rfl)) ?_
    refine EP_s rfl rfl rfl rfl rfl (by exact (os_move rfl)) ?_
    refine EP_split (t := 19) rfl (fun hc19 => ?_) (fun hc19 => ?_)
    · try simp only [Bool.or_eq_true, Bool.and_eq_true, Bool.or_eq_false_iff, Bool.and_eq_false_iff, decide_eq_true_eq, decide_eq_false_iff_not, Bool.not_eq_true', Bool.not_eq_false', Int.natCast_inj, Int.ofNat_lt, Int.ofNat_le] at hc19
      refine EP_s_yes rfl rfl rfl rfl rfl rfl rfl (by exact (os_move rfl)) ?_
      refine EP_s_yes rfl rfl rfl rfl rfl rfl rfl (by exact (os_move rfl)) ?_
      have hl22 := (show data.h.n = ys2.length from OwnR.len ho2)
      obtain ⟨x22, hx22⟩ := get_some (l := ys2) (k := j) (by first | omega | (simp only [List.length_set, List.length_replicate, List.length_cons, List.length_nil]; omega) | (simp <;> omega))
      refine EP_s_yes rfl rfl rfl rfl rfl rfl rfl (by exact (os_at (m := data.h.n) (j) rfl rfl (by omega) sl23 (by omega) (by have hz_ := OwnR.some ho2 (by show 0 < data.h.n; omega); exact hz_))) ?_
      have hk23 : x22 ≤ 18446744073709551615 := OwnR.okAt ho2 hx22
      refine EP_s_yes rfl rfl rfl rfl rfl rfl rfl (by exact (os_load_one rfl one22 (FRow.whole (OwnR.frow ho2 fun x hx => .inr (own_seg hx)) hx22))) ?_
      refine EP_s_yes rfl rfl rfl rfl rfl rfl rfl (by exact (os_move rfl)) ?_
      refine EP_s_yes rfl rfl rfl rfl rfl rfl rfl (by exact (os_move rfl)) ?_
      refine EP_s_yes rfl rfl rfl rfl rfl rfl rfl (by exact (os_subn (p := j) (q := 1) rfl rfl (by omega) (IntWalk.i64_in _ (by omega)))) ?_
      have hl27 := (show data.h.n = ys2.length from OwnR.len ho2)
      obtain ⟨x27, hx27⟩ := get_some (l := ys2) (k := (j - 1)) (by first | omega | (simp only [List.length_set, List.length_replicate, List.length_cons, List.length_nil]; omega) | (simp <;> omega))
      refine EP_s_yes rfl rfl rfl rfl rfl rfl rfl (by exact (os_at (m := data.h.n) ((j - 1)) rfl rfl (by omega) sl23 (by omega) (by have hz_ := OwnR.some ho2 (by show 0 < data.h.n; omega); exact hz_))) ?_
      have hk28 : x27 ≤ 18446744073709551615 := OwnR.okAt ho2 hx27
      refine EP_s_yes rfl rfl rfl rfl rfl rfl rfl (by exact (os_load_one rfl one22 (FRow.whole (OwnR.frow ho2 fun x hx => .inr (own_seg hx)) hx27))) ?_
      refine EP_s_yes rfl rfl rfl rfl rfl rfl rfl (by exact (os_call (vs := [(.int .u64 ((x22 : Nat) : Int)), (.int .u64 ((x27 : Nat) : Int))]) body172 rfl (s_Less x22 x27))) ?_
      refine EP_s rfl rfl rfl rfl rfl (by exact (os_pick_t rfl rfl)) ?_
      refine EP_nil ?_
      refine EQ_then (EQ_wp ?_)
      refine EW_cond rfl (fun hc30 => ?_) (fun hc30 => ?_)
      · have hb30 := hc30
        try simp only [Bool.or_eq_true, Bool.and_eq_true, Bool.or_eq_false_iff, Bool.and_eq_false_iff, decide_eq_true_eq, decide_eq_false_iff_not, Bool.not_eq_true', Bool.not_eq_false', Int.natCast_inj, Int.ofNat_lt, Int.ofNat_le] at hc30
        refine EW_skip ?_
        refine EQ_then (EQ_wp ?_)
        refine EW_seq ?_
        refine EW_block ?_
        -- region 6 DRAWN  zsortordered.go:15
        refine EW_drawC [] [⟨[], some 33, [0], .r, 0⟩, ⟨[], some 34, [7], .r, 0⟩, ⟨[], some 35, [0], .r, 0⟩, ⟨[], some 36, [7], .r, 0⟩, ⟨[3], some 37, [36], .r, 8⟩, ⟨[], some 38, [0], .r, 0⟩, ⟨[], some 39, [7], .r, 0⟩, ⟨[6], some 40, [39], .r, 64⟩, ⟨[5, 7], some 41, [38, 40], .r, 224⟩, ⟨[8], some 42, [41], .s, 480⟩, ⟨[], some 43, [0], .r, 0⟩, ⟨[], some 44, [7], .r, 0⟩, ⟨[10, 11], some 45, [43, 44], .r, 3072⟩, ⟨[12], some 46, [45], .s, 7168⟩, ⟨[0, 1, 0, 1, 5, 6, 7, 8, 9, 13], some 47, [33, 34], .r, 16355⟩, ⟨[14, 9, 0, 1, 5, 6, 7, 8, 9, 13], none, [47, 42], .y, 32739⟩, ⟨[2, 4, 0, 1, 2, 3, 4, 5, 6, 7, 8, 9, 10, 11, 12, 13, 14, 15], some 48, [35, 37], .r, 65535⟩, ⟨[16, 13, 15, 0, 1, 2, 3, 4, 5, 6, 7, 8, 9, 10, 11, 12, 13, 14, 15], none, [48, 46], .y, 131071⟩] [.r, .r, .r, .r, .r, .r, .r, .r, .r, .s, .r, .r, .r, .s, .r, .y, .r, .y] [0, 1, 2, 3, 4, 5, 6, 7, 8, 9, 10, 11, 12, 13, 14, 15, 16, 17] mixed (by kernel_rfl) (by kernel_rfl) (by kernel_rfl) rfl rfl ?_
        refine EP_r rfl rfl rfl rfl rfl (Incl.nil _) (by exact (os_move rfl)) ?_
        refine EP_r rfl rfl rfl rfl rfl (Incl.nil _) (by exact (os_move rfl)) ?_
        refine EP_r rfl rfl rfl rfl rfl (Incl.nil _) (by exact (os_move rfl)) ?_
        refine EP_r rfl rfl rfl rfl rfl (Incl.nil _) (by exact (os_move rfl)) ?_
        refine EP_r rfl rfl rfl rfl rfl (Incl.nil _) (by exact (os_subn (p := j) (q := 1) rfl rfl (by omega) (IntWalk.i64_in _ (by omega)))) ?_
        refine EP_r rfl rfl rfl rfl rfl (Incl.nil _) (by exact (os_move rfl)) ?_
        refine EP_r rfl rfl rfl rfl rfl (Incl.nil _) (by exact (os_move rfl)) ?_
        refine EP_r rfl rfl rfl rfl rfl (Incl.nil _) (by exact (os_subn (p := j) (q := 1) rfl rfl (by omega) (IntWalk.i64_in _ (by omega)))) ?_
        have hl41 := (show data.h.n = ys2.length from OwnR.len ho2)
        obtain ⟨x41, hx41⟩ := get_some (l := ys2) (k := (j - 1)) (by first | omega | (simp only [List.length_set, List.length_replicate, List.length_cons, List.length_nil]; omega) | (simp <;> omega))
        refine EP_r rfl rfl rfl rfl rfl (Incl.nil _) (by exact (os_at (m := data.h.n) ((j - 1)) rfl rfl (by omega) sl23 (by omega) (by have hz_ := OwnR.some ho2 (by show 0 < data.h.n; omega); exact hz_))) ?_
        have hk42 : x41 ≤ 18446744073709551615 := OwnR.okAt ho2 hx41
        refine EP_s rfl rfl rfl rfl rfl (by exact (os_load_one rfl one22 (FRow.whole (OwnR.frow ho2 fun x hx => .inr (own_seg hx)) hx41))) ?_
        refine EP_r rfl rfl rfl rfl rfl (Incl.nil _) (by exact (os_move rfl)) ?_
        refine EP_r rfl rfl rfl rfl rfl (Incl.nil _) (by exact (os_move rfl)) ?_
        have hl45 := (show data.h.n = ys2.length from OwnR.len ho2)
        obtain ⟨x45, hx45⟩ := get_some (l := ys2) (k := j) (by first | omega | (simp only [List.length_set, List.length_replicate, List.length_cons, List.length_nil]; omega) | (simp <;> omega))
        refine EP_r rfl rfl rfl rfl rfl (Incl.nil _) (by exact (os_at (m := data.h.n) (j) rfl rfl (by omega) sl23 (by omega) (by have hz_ := OwnR.some ho2 (by show 0 < data.h.n; omega); exact hz_))) ?_
        have hk46 : x45 ≤ 18446744073709551615 := OwnR.okAt ho2 hx45
        refine EP_s rfl rfl rfl rfl rfl (by exact (os_load_one rfl one22 (FRow.whole (OwnR.frow ho2 fun x hx => .inr (own_seg hx)) hx45))) ?_
        have hl47 := (show data.h.n = ys2.length from OwnR.len ho2)
        obtain ⟨x47, hx47⟩ := get_some (l := ys2) (k := j) (by first | omega | (simp only [List.length_set, List.length_replicate, List.length_cons, List.length_nil]; omega) | (simp <;> omega))
        refine EP_r rfl rfl rfl rfl rfl (Incl.nil _) (by exact (os_at (m := data.h.n) (j) rfl rfl (by omega) sl23 (by omega) (by have hz_ := OwnR.some ho2 (by show 0 < data.h.n; omega); exact hz_))) ?_
        refine EP_kz rfl rfl rfl rfl (by exact (ox_set x41 rfl rfl sz22 rfl ho2 (by first | omega | (simp only [List.length_set, List.length_replicate, List.length_cons, List.length_nil]; omega) | (simp <;> omega)) (by simp only [rU64]; omega) (List.Perm.refl _))) (fun _ _ _ => Incl.nil _) ?_
        rintro L6_15 v6_15 ⟨S6_15, rfl, ho6_15⟩
        have ho6_15 : OwnR rU64 I0 22 (Sl.mk data.h (ys2.set j x41)) S6_15 := ho6_15
        have hl48 := (show data.h.n = (ys2.set j x41).length from OwnR.len ho6_15)
        obtain ⟨x48, hx48⟩ := get_some (l := (ys2.set j x41)) (k := (j - 1)) (by first | omega | (simp only [List.length_set, List.length_replicate, List.length_cons, List.length_nil]; omega) | (simp <;> omega))
        refine EP_r rfl rfl rfl rfl rfl (Incl.nil _) (by exact (os_at (m := data.h.n) ((j - 1)) rfl rfl (by omega) sl23 (by omega) (by have hz_ := OwnR.some ho6_15 (by show 0 < data.h.n; omega); exact hz_))) ?_
        refine EP_kz rfl rfl rfl rfl (by exact (ox_set x45 rfl rfl sz22 rfl ho6_15 (by first | omega | (simp only [List.length_set, List.length_replicate, List.length_cons, List.length_nil]; omega) | (simp <;> omega)) (by simp only [rU64]; omega) (List.Perm.refl _))) (fun _ _ _ => Incl.nil _) ?_
        rintro L6_17 v6_17 ⟨S6_17, rfl, ho6_17⟩
        have ho6_17 : OwnR rU64 I0 22 (Sl.mk data.h ((ys2.set j x41).set (j - 1) x45)) S6_17 := ho6_17
        refine EP_nil ?_
        refine EQ_block_normal ?_
        refine EQ_then (EQ_wp ?_)
        -- region 5  zsortordered.go:14
        refine EW_region ?_
        refine EL_s rfl rfl rfl (os_move rfl) ?_
        refine EL_s rfl rfl rfl (os_subn (p := j) (q := 1) rfl rfl (by omega) (IntWalk.i64_in _ (by omega))) ?_
        refine EL_s rfl rfl rfl (os_assign rfl) ?_
        refine EL_nil ?_
        refine EQ_round ((j - 1), (ys2.set j x41).set (j - 1) x45, S6_17) ?_ ?_ ?_ ?_
        · exact ⟨by omega, (swap_perm (by omega) hx41 hx45).trans hP2, ho6_17, swap_step (by omega) (by omega) hx41 hx45 (by rw [hx27, Option.some.injEq] at hx41; rw [hx22, Option.some.injEq] at hx45; subst hx41; subst hx45; simpa using hc30) hs2⟩
        · first | omega | (dsimp only; omega)
        · exact ⟨rfl, rfl, rfl, rfl, rfl, trivial⟩
        · exact fun w h => h.incl (Incl.cons (Incl.refl _) _)
      · have hb30 := hc30
        try simp only [Bool.or_eq_true, Bool.and_eq_true, Bool.or_eq_false_iff, Bool.and_eq_false_iff, decide_eq_true_eq, decide_eq_false_iff_not, Bool.not_eq_true', Bool.not_eq_false', Int.natCast_inj, Int.ofNat_lt, Int.ofNat_le] at hc30
        refine EW_exit ?_
        refine EQ_then_exit (EQ_then_exit (EQ_block_exit (?_)))
        refine EQ_block_normal ?_
        refine EQ_then (EQ_wp ?_)
        -- region 2  zsortordered.go:13
        refine EW_region ?_
        refine EL_s rfl rfl rfl (os_move rfl) ?_
        refine EL_s rfl rfl rfl (os_addn (p := i) (q := 1) rfl rfl (IntWalk.i64_in _ (by omega))) ?_
        refine EL_s rfl rfl rfl (os_assign rfl) ?_
        refine EL_nil ?_
        refine EQ_round ((i + 1), ys2, S2) ?_ ?_ ?_ ?_
        · exact ⟨by omega, by omega, hP2, ho2, hs2.all hj (.inr ⟨_, _, hx27, hx22, by simpa using hc30⟩)⟩
        · first | omega | (dsimp only; omega)
        · exact ⟨rfl, rfl, rfl, rfl, trivial⟩
        · exact fun w h => h.incl (Incl.cons (Incl.refl _) _)
    · try simp only [Bool.or_eq_true, Bool.and_eq_true, Bool.or_eq_false_iff, Bool.and_eq_false_iff, decide_eq_true_eq, decide_eq_false_iff_not, Bool.not_eq_true', Bool.not_eq_false', Int.natCast_inj, Int.ofNat_lt, Int.ofNat_le] at hc19
      refine EP_no rfl rfl rfl rfl rfl rfl rfl ?_
      refine EP_no rfl rfl rfl rfl rfl rfl rfl ?_
      refine EP_no rfl rfl rfl rfl rfl rfl rfl ?_
      refine EP_no rfl rfl rfl rfl rfl rfl rfl ?_
      refine EP_no rfl rfl rfl rfl rfl rfl rfl ?_
      refine EP_no rfl rfl rfl rfl rfl rfl rfl ?_
      refine EP_no rfl rfl rfl rfl rfl rfl rfl ?_
      refine EP_no rfl rfl rfl rfl rfl rfl rfl ?_
      refine EP_no rfl rfl rfl rfl rfl rfl rfl ?_
      refine EP_no rfl rfl rfl rfl rfl rfl rfl ?_
      refine EP_s rfl rfl rfl rfl rfl (by exact (os_pick_f rfl rfl)) ?_
      refine EP_nil ?_
      refine EQ_then (EQ_wp ?_)
      refine EW_false rfl ?_
      refine EW_exit ?_
      refine EQ_then_exit (EQ_then_exit (EQ_block_exit (?_)))
      refine EQ_block_normal ?_
      refine EQ_then (EQ_wp ?_)
      -- region 2  zsortordered.go:13
      refine EW_region ?_
      refine EL_s rfl rfl rfl (os_move rfl) ?_
      refine EL_s rfl rfl rfl (os_addn (p := i) (q := 1) rfl rfl (IntWalk.i64_in _ (by omega))) ?_
      refine EL_s rfl rfl rfl (os_assign rfl) ?_
      refine EL_nil ?_
      refine EQ_round ((i + 1), ys2, S2) ?_ ?_ ?_ ?_
      · exact ⟨by omega, by omega, hP2, ho2, hs2.all hj (.inl (by omega))⟩
      · first | omega | (dsimp only; omega)
      · exact ⟨rfl, rfl, rfl, rfl, trivial⟩
      · exact fun w h => h.incl (Incl.cons (Incl.refl _) _)
  · have hb12 := hc12
    try simp only [Bool.or_eq_true, Bool.and_eq_true, Bool.or_eq_false_iff, Bool.and_eq_false_iff, decide_eq_true_eq, decide_eq_false_iff_not, Bool.not_eq_true', Bool.not_eq_false', Int.natCast_inj, Int.ofNat_lt, Int.ofNat_le] at hc12
    refine EW_exit ?_
    refine EQ_then_exit (EQ_then_exit (EQ_block_exit (?_)))
    exact pn_ret0 [_] Try.results166  (.refl _) (Incl.cons (Incl.refl _) _) ⟨⟨ys, _, rfl, ho, hP, hso.pairwise (by omega)⟩, rfl⟩ (.inr rfl)

theorem s_Len64 {I : Gh} {L : List Seg} (x : Nat) (hp0 : x ≤ 12) : PC Try.prog 165 #[.int .u64 ((x : Nat) : Int)] I L fun K v => ∃ z : Int, v = .int .i64 z := by
  refine PC.of (n := 25) Try.func165 rfl Try.ntmps165 rfl fun I0 L0 hI0 hL0 => ?_
  refine EW_seq ?_
  -- region 0  bits.go:337
  refine EW_region ?_
  refine EL_s rfl rfl rfl (os_assign rfl) ?_
  refine EL_nil ?_
  refine EQ_then (EQ_wp ?_)
  refine EW_seq ?_
  refine EW_seq ?_
  -- region 1  bits.go:338
  refine EW_region ?_
  refine EL_s rfl rfl rfl (os_move rfl) ?_
  refine EL_s rfl rfl rfl (os_geq rfl rfl) ?_
  refine EL_nil ?_
  refine EQ_then (EQ_wp ?_)
  refine EW_cond rfl (fun hc4 => ?_) (fun hc4 => ?_)
  · have hb4 := hc4
    try simp only [Bool.or_eq_true, Bool.and_eq_true, Bool.or_eq_false_iff, Bool.and_eq_false_iff, decide_eq_true_eq, decide_eq_false_iff_not, Bool.not_eq_true', Bool.not_eq_false', Int.natCast_inj, Int.ofNat_lt, Int.ofNat_le] at hc4
    exfalso; omega
  · have hb4 := hc4
    try simp only [Bool.or_eq_true, Bool.and_eq_true, Bool.or_eq_false_iff, Bool.and_eq_false_iff, decide_eq_true_eq, decide_eq_false_iff_not, Bool.not_eq_true', Bool.not_eq_false', Int.natCast_inj, Int.ofNat_lt, Int.ofNat_le] at hc4
    refine EW_skip ?_
    refine EQ_then (EQ_wp ?_)
    refine EW_seq ?_
    refine EW_seq ?_
    -- region 4  bits.go:342
    refine EW_region ?_
    refine EL_s rfl rfl rfl (os_move rfl) ?_
    refine EL_s rfl rfl rfl (os_geq rfl rfl) ?_
    refine EL_nil ?_
    refine EQ_then (EQ_wp ?_)
    refine EW_cond rfl (fun hc8 => ?_) (fun hc8 => ?_)
    · have hb8 := hc8
      try simp only [Bool.or_eq_true, Bool.and_eq_true, Bool.or_eq_false_iff, Bool.and_eq_false_iff, decide_eq_true_eq, decide_eq_false_iff_not, Bool.not_eq_true', Bool.not_eq_false', Int.natCast_inj, Int.ofNat_lt, Int.ofNat_le] at hc8
      exfalso; omega
    · have hb8 := hc8
      try simp only [Bool.or_eq_true, Bool.and_eq_true, Bool.or_eq_false_iff, Bool.and_eq_false_iff, decide_eq_true_eq, decide_eq_false_iff_not, Bool.not_eq_true', Bool.not_eq_false', Int.natCast_inj, Int.ofNat_lt, Int.ofNat_le] at hc8
      refine EW_skip ?_
      refine EQ_then (EQ_wp ?_)
      refine EW_seq ?_
      refine EW_seq ?_
      -- region 7  bits.go:346
      refine EW_region ?_
      refine EL_s rfl rfl rfl (os_move rfl) ?_
      refine EL_s rfl rfl rfl (os_geq rfl rfl) ?_
      refine EL_nil ?_
      refine EQ_then (EQ_wp ?_)
      refine EW_cond rfl (fun hc14 => ?_) (fun hc14 => ?_)
      · have hb14 := hc14
        try simp only [Bool.or_eq_true, Bool.and_eq_true, Bool.or_eq_false_iff, Bool.and_eq_false_iff, decide_eq_true_eq, decide_eq_false_iff_not, Bool.not_eq_true', Bool.not_eq_false', Int.natCast_inj, Int.ofNat_lt, Int.ofNat_le] at hc14
        exfalso; omega
      · have hb14 := hc14
        try simp only [Bool.or_eq_true, Bool.and_eq_true, Bool.or_eq_false_iff, Bool.and_eq_false_iff, decide_eq_true_eq, decide_eq_false_iff_not, Bool.not_eq_true', Bool.not_eq_false', Int.natCast_inj, Int.ofNat_lt, Int.ofNat_le] at hc14
        refine EW_skip ?_
        refine EQ_then (EQ_wp ?_)
        refine EW_seq ?_
        -- region 10  bits.go:350
        refine EW_region ?_
        refine EL_s rfl rfl rfl (os_move rfl) ?_
        refine EL_s rfl rfl rfl (os_move rfl) ?_
        refine EL_s rfl rfl rfl (os_convn (p := x) rfl ⟨_, int22⟩ int5 (IntWalk.u8_in _ (by omega))) ?_
        refine EL_i rfl rfl rfl (os_strindexE (i := x) 256 rfl rfl str9 rfl (by omega)) ?_
        intro m22 hm22
        refine EL_s rfl rfl rfl (os_convn (p := m22) rfl ⟨_, int5⟩ int3 (IntWalk.i64_in _ (by omega))) ?_
        refine EL_s rfl rfl rfl (os_addn (p := 0) (q := m22) rfl rfl (IntWalk.i64_in _ (by omega))) ?_
        refine EL_s rfl rfl rfl (os_assign rfl) ?_
        refine EL_nil ?_
        refine EQ_then (EQ_wp ?_)
        refine EW_ret ?_
        exact pc_ret1 Try.results165 (rv_tmp rfl) (.refl _) (Incl.refl _) ⟨_, rfl⟩ (.inl rfl)

theorem s_Len {I : Gh} {L : List Seg} (x : Nat) (hp0 : x ≤ 12) : PC Try.prog 146 #[.int .u64 ((x : Nat) : Int)] I L fun K v => ∃ z : Int, v = .int .i64 z := by
  refine PC.of (n := 8) Try.func146 rfl Try.ntmps146 rfl fun I0 L0 hI0 hL0 => ?_
  refine EW_seq ?_
  -- region 0  bits.go:302
  refine EW_region ?_
  refine EL_s rfl rfl rfl (os_assign rfl) ?_
  refine EL_nil ?_
  refine EQ_then (EQ_wp ?_)
  refine EW_seq ?_
  refine EW_false rfl ?_
  refine EW_skip ?_
  refine EQ_then (EQ_wp ?_)
  refine EW_seq ?_
  -- region 2  bits.go:306
  refine EW_region ?_
  refine EL_s rfl rfl rfl (os_move rfl) ?_
  refine EL_g rfl rfl rfl (og_call (vs := [(.int .u64 ((x : Nat) : Int))]) body165 rfl (s_Len64 x (by omega))) ?_
  intro I7 v7 hI7 hv7
  obtain ⟨z7, rfl⟩ := hv7
  refine EL_s rfl rfl rfl (os_assign rfl) ?_
  refine EL_nil ?_
  refine EQ_then (EQ_wp ?_)
  refine EW_ret ?_
  exact pc_ret1 Try.results146 (rv_tmp rfl) hI7 (Incl.refl _) ⟨_, rfl⟩ (.inl rfl)

theorem s_pdq {I : Gh} {L : List Seg} {data : Sl Nat} {Sdata : Seg} (hdata : OwnR rU64 I 22 data Sdata) (a : Nat) (b : Nat) (lim : Int) (hp0 : a = 0) (hp1 : b = data.xs.length) (hp2 : b ≤ 12) : PN Try.prog 148 #[data.v, .int .i64 ((a : Nat) : Int), .int .i64 ((b : Nat) : Int), .int .i64 lim] I L ([Sdata]) fun K Ss' v => (∃ (ys : List Nat) (Sy : Seg), Ss' = [Sy] ∧ OwnR rU64 K 22 (Sl.mk data.h ys) Sy ∧ (ys.Perm data.xs ∧ ys.Pairwise (· ≤ ·))) ∧ v = .tuple #[] := by
  refine PN.of (n := 134) Try.func148 rfl Try.ntmps148 rfl fun I0 L0 hI0 hL0 => ?_
  refine EW_perm (nm_1 _ _) ?_
  have hdata := hdata.mono hI0
  have hl_data := OwnR.len hdata
  have hf_data := hdata.few
  simp only [rU64] at hf_data
  refine EW_seq ?_
  -- region 0  zsortordered.go:67
  refine EW_region ?_
  refine EL_s rfl rfl rfl (os_assign rfl) ?_
  refine EL_nil ?_
  refine EQ_then (EQ_wp ?_)
  refine EW_seq ?_
  -- region 1  zsortordered.go:68
  refine EW_region ?_
  refine EL_s rfl rfl rfl (os_assign rfl) ?_
  refine EL_nil ?_
  refine EQ_then (EQ_wp ?_)
  refine EW_block ?_
  refine EW_loop (σ := Unit) (fun _u => [(0, (data.v)), (1, (.int .i64 ((a : Nat) : Int))), (2, (.int .i64 ((b : Nat) : Int))), (3, (.int .i64 lim)), (8, (.bool true)), (9, (.bool true))]) (fun _u => I0) (fun _u => Sdata :: L0) (fun _u => True) (fun _u => 0) () trivial ⟨rfl, rfl, rfl, rfl, rfl, rfl, trivial⟩ (fun w h => h) ?_
  rintro _u _hu
  refine EW_block ?_
  refine EW_seq ?_
  -- region 2  zsortordered.go:72
  refine EW_region ?_
  refine EL_s rfl rfl rfl (os_move rfl) ?_
  refine EL_s rfl rfl rfl (os_move rfl) ?_
  refine EL_s rfl rfl rfl (os_subn (p := b) (q := a) rfl rfl (by omega) (IntWalk.i64_in _ (by omega))) ?_
  refine EL_s rfl rfl rfl (os_assign rfl) ?_
  refine EL_nil ?_
  refine EQ_then (EQ_wp ?_)
  refine EW_seq ?_
  refine EW_seq ?_
  -- region 3  zsortordered.go:74
  refine EW_region ?_
  refine EL_s rfl rfl rfl (os_move rfl) ?_
  refine EL_s rfl rfl rfl (os_leq rfl rfl) ?_
  refine EL_nil ?_
  refine EQ_then (EQ_wp ?_)
  refine EW_cond rfl (fun hc23 => ?_) (fun hc23 => ?_)
  · have hb23 := hc23
    try simp only [Bool.or_eq_true, Bool.and_eq_true, Bool.or_eq_false_iff, Bool.and_eq_false_iff, decide_eq_true_eq, decide_eq_false_iff_not, Bool.not_eq_true', Bool.not_eq_false', Int.natCast_inj, Int.ofNat_lt, Int.ofNat_le] at hc23
    refine EW_seq ?_
    -- region 4  zsortordered.go:75
    refine EW_region ?_
    refine EL_s rfl rfl rfl (os_move rfl) ?_
    refine EL_s rfl rfl rfl (os_move rfl) ?_
    refine EL_s rfl rfl rfl (os_move rfl) ?_
    refine EL_x rfl rfl (ox_callN (vs := [(data.v), (.int .i64 ((a : Nat) : Int)), (.int .i64 ((b : Nat) : Int))]) body166 rfl (pl_0_1 _ _) (s_insertion hdata a b (by omega) (by omega) (by omega))) ?_
    rintro I27 L27 v27 hI27 ⟨Ss27, rfl, ⟨ys27, S27, rfl, ho27, hy27⟩, rfl⟩
    refine EL_perm (nm_1 _ _) ?_
    refine EL_nil ?_
    refine EQ_then (EQ_wp ?_)
    refine EW_ret ?_
    refine EQ_then_ret (EQ_block_ret (EQ_then_ret (EQ_block_ret (?_))))
    exact pn_ret0 [_] Try.results148  hI27 (Incl.cons (Incl.refl _) _) ⟨⟨_, _, rfl, ho27, hy27⟩, rfl⟩ (.inl rfl)
  · have hb23 := hc23
    try simp only [Bool.or_eq_true, Bool.and_eq_true, Bool.or_eq_false_iff, Bool.and_eq_false_iff, decide_eq_true_eq, decide_eq_false_iff_not, Bool.not_eq_true', Bool.not_eq_false', Int.natCast_inj, Int.ofNat_lt, Int.ofNat_le] at hc23
    exfalso; omega

theorem s_Sort {I : Gh} {L : List Seg} {x : Sl Nat} {Sx : Seg} (hx : OwnR rU64 I 22 x Sx) (hp0 : x.xs.length ≤ 12) : PN Try.prog 138 #[x.v] I L ([Sx]) fun K Ss' v => (∃ (ys : List Nat) (Sy : Seg), Ss' = [Sy] ∧ OwnR rU64 K 22 (Sl.mk x.h ys) Sy ∧ (ys.Perm x.xs ∧ ys.Pairwise (· ≤ ·))) ∧ v = .tuple #[] := by
  refine PN.of (n := 11) Try.func138 rfl Try.ntmps138 rfl fun I0 L0 hI0 hL0 => ?_
  refine EW_perm (nm_1 _ _) ?_
  have hx := hx.mono hI0
  have hl_x := OwnR.len hx
  have hf_x := hx.few
  simp only [rU64] at hf_x
  refine EW_seq ?_
  -- region 0  sort.go:17
  refine EW_region ?_
  refine EL_s rfl rfl rfl (os_move rfl) ?_
  have hl4 := (show x.h.n = x.xs.length from OwnR.len hx)
  refine EL_s rfl rfl rfl (os_len rfl sl23) ?_
  refine EL_s rfl rfl rfl (os_assign rfl) ?_
  refine EL_nil ?_
  refine EQ_then (EQ_wp ?_)
  -- region 1  sort.go:18
  refine EW_region ?_
  refine EL_s rfl rfl rfl (os_move rfl) ?_
  refine EL_s rfl rfl rfl (os_move rfl) ?_
  refine EL_s rfl rfl rfl (os_move rfl) ?_
  refine EL_s rfl rfl rfl (os_convn (p := x.h.n) rfl ⟨_, int3⟩ int202 (IntWalk.u64_in _ (by omega))) ?_
  refine EL_g rfl rfl rfl (og_call (vs := [(.int .u64 ((x.h.n : Nat) : Int))]) body146 rfl (s_Len x.h.n (by omega))) ?_
  intro I9 v9 hI9 hv9
  obtain ⟨z9, rfl⟩ := hv9
  refine EL_x rfl rfl (ox_callN (vs := [(x.v), (.int .i64 0), (.int .i64 ((x.h.n : Nat) : Int)), (.int .i64 z9)]) body148 rfl (pl_0_1 _ _) (s_pdq (hx.mono hI9) 0 x.h.n z9 (by omega) (by omega) (by omega))) ?_
  rintro I10 L10 v10 hI10 ⟨Ss10, rfl, ⟨ys10, S10, rfl, ho10, hy10⟩, rfl⟩
  refine EL_perm (nm_1 _ _) ?_
  refine EL_nil ?_
  exact pn_ret0 [_] Try.results138  (hI9.trans hI10) (Incl.cons (Incl.refl _) _) ⟨⟨_, _, rfl, ho10, hy10⟩, rfl⟩ (.inr rfl)

theorem s_Collect {I : Gh} {L : List Seg} {b : Nat} {s : Sl Nat} (hb : (b, Obj.cells #[s.v] 23) ∈ L.flatten) (hs : FRow rU64 I L s) (hpos : 0 < s.xs.length) (h12 : s.xs.length ≤ 12) : PN Try.prog 137 #[.func (.func 139) #[] #[.pointer (some ⟨b, 0, none⟩)]] I L ([]) fun K Ss' v => ∃ (y0 : Sl Nat) (y0_ : Seg), v = y0.v ∧ Ss' = [y0_] ∧ OwnR rU64 K 22 y0 y0_ ∧ y0.xs = s.xs := by
  refine PN.of (n := 5) Try.func137 rfl Try.ntmps137 rfl fun I0 L0 hI0 hL0 => ?_
  have hb := hL0.mem hb
  have hs := FRow.mono hs hI0 hL0
  refine EW_seq ?_
  -- region 0  iter.go:59
  refine EW_region ?_
  refine EL_s rfl rfl rfl (os_assign rfl) ?_
  refine EL_nil ?_
  refine EQ_then (EQ_wp ?_)
  refine EW_seq ?_
  -- region 1  iter.go:60
  refine EW_region ?_
  refine EL_s rfl rfl rfl (os_move rfl) ?_
  refine EL_x rfl rfl (ox_callN (vs := [.slice none 0 0, (.func (.func 139) #[] #[(.pointer (some ⟨b, 0, none⟩))])]) body147 rfl (Ss := []) (List.Perm.refl _) (s_AppendSeq hb hs hpos h12)) ?_
  rintro I4 L4 v4 hI4 ⟨Ss4, rfl, ⟨y4, y4_, rfl, rfl, hy4, hay4⟩⟩
  refine EL_perm (nm_1 _ _) ?_
  refine EL_s rfl rfl rfl (os_assign rfl) ?_
  refine EL_nil ?_
  refine EQ_then (EQ_wp ?_)
  refine EW_ret ?_
  exact pn_ret1 [_] Try.results137 (rv_tmp rfl) hI4 (Incl.cons (Incl.refl _) _) ⟨y4, _, rfl, rfl, hy4, (by exact hay4)⟩ (.inl rfl)

theorem s_Sorted {I : Gh} {L : List Seg} {b : Nat} {s : Sl Nat} (hb : (b, Obj.cells #[s.v] 23) ∈ L.flatten) (hs : FRow rU64 I L s) (hpos : 0 < s.xs.length) (h12 : s.xs.length ≤ 12) : PN Try.prog 129 #[.func (.func 139) #[] #[.pointer (some ⟨b, 0, none⟩)]] I L ([]) fun K Ss' v => ∃ (y0 : Sl Nat) (y0_ : Seg), v = y0.v ∧ Ss' = [y0_] ∧ OwnR rU64 K 22 y0 y0_ ∧ y0.xs.Perm s.xs ∧ y0.xs.Pairwise (· ≤ ·) := by
  refine PN.of (n := 9) Try.func129 rfl Try.ntmps129 rfl fun I0 L0 hI0 hL0 => ?_
  have hb := hL0.mem hb
  have hs := FRow.mono hs hI0 hL0
  refine EW_seq ?_
  -- region 0  iter.go:66
  refine EW_region ?_
  refine EL_s rfl rfl rfl (os_assign rfl) ?_
  refine EL_nil ?_
  refine EQ_then (EQ_wp ?_)
  refine EW_seq ?_
  -- region 1  iter.go:67
  refine EW_region ?_
  refine EL_s rfl rfl rfl (os_move rfl) ?_
  refine EL_x rfl rfl (ox_callN (vs := [_]) body137 rfl (Ss := []) (List.Perm.refl _) (s_Collect hb (FRow.mono hs (.refl _) (Incl.refl _)) hpos h12)) ?_
  rintro I5 L5 v5 hI5 ⟨Ss5, rfl, ⟨y5, y5_, rfl, rfl, hy5, hay5⟩⟩
  refine EL_perm (nm_1 _ _) ?_
  refine EL_s rfl rfl rfl (os_assign rfl) ?_
  refine EL_nil ?_
  refine EQ_then (EQ_wp ?_)
  refine EW_seq ?_
  -- region 2  iter.go:68
  refine EW_region ?_
  refine EL_s rfl rfl rfl (os_move rfl) ?_
  refine EL_x rfl rfl (ox_callN (vs := [(y5.v)]) body138 rfl (pl_0_1 _ _) (s_Sort hy5 (by rw [hay5]; exact h12))) ?_
  rintro I7 L7 v7 hI7 ⟨Ss7, rfl, ⟨ys7, S7, rfl, ho7, hy7⟩, rfl⟩
  refine EL_perm (nm_1 _ _) ?_
  refine EL_nil ?_
  refine EQ_then (EQ_wp ?_)
  refine EW_seq ?_
  -- region 3  iter.go:69
  refine EW_region ?_
  refine EL_s rfl rfl rfl (os_move rfl) ?_
  refine EL_s rfl rfl rfl (os_assign rfl) ?_
  refine EL_nil ?_
  refine EQ_then (EQ_wp ?_)
  refine EW_ret ?_
  exact pn_ret1 [_] Try.results129 (rv_tmp rfl) (hI5.trans hI7) (Incl.cons (Incl.refl _) _) ⟨(Sl.mk y5.h ys7), _, rfl, rfl, ho7, (by rw [← hay5]; exact hy7)⟩ (.inl rfl)


end Go.Proofs.Ytlhibbjnhdcffaa
