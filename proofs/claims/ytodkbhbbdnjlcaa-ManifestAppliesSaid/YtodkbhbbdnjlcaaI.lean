/- Proved here: the part I of the proof that the law of this seat returns true for every input; no condition. -/
import Derived.Test.YtodkbhbbdnjlcaaH
set_option maxRecDepth 20000
set_option linter.unusedVariables false
set_option linter.unusedSimpArgs false
namespace Go.Proofs.Ytodkbhbbdnjlcaa
open Go Go.Gl


theorem extract_end {α : Type} (l : List α) (i : Nat) {m : Nat} (hm : l.length = m) : l.extract i m = l.drop i := by
  change (l.drop i).take (m - i) = _
  exact List.take_of_length_le (by simp; omega)
theorem mem_flat_extract {l : List (List Value)} {i j : Nat} {x : Value} (h : x ∈ (l.extract i j).flatten) : x ∈ l.flatten := by
  simp only [List.mem_flatten] at h ⊢
  obtain ⟨y, hy, hx⟩ := h
  exact ⟨y, List.mem_of_mem_drop (List.mem_of_mem_take hy), hx⟩
theorem FOwn.okAt {cells : PF → List Value} {T : TypeId} {I : Gh} {a : Option Addr} {n c : Nat} {S : Seg} {ps : List PF} (h : FOwn cells T I a n c S ps) {k : Nat} {p : PF} (hp : ps[k]? = some p) : p.Ok I := h.ok p (List.mem_of_getElem? hp)
theorem FOwn.row' {cells : PF → List Value} {T : TypeId} {I : Gh} {L : List Seg} {a : Option Addr} {n c : Nat} {S : Seg} {ps : List PF} (h : FOwn cells T I a n c S ps) : Row I (S :: L) a n c 6 (ps.map cells) := h.row.row fun x hx => .inr (own_seg hx)
theorem FOwn.get {cells : PF → List Value} {T : TypeId} {I : Gh} {L : List Seg} {a : Option Addr} {n c : Nat} {S : Seg} {ps : List PF} (h : FOwn cells T I a n c S ps) {k : Nat} {p : PF} (hp : ps[k]? = some p) : Cells I (S :: L) ((opA a).add (k * 6)) (cells p) :=
  h.row'.cells (by simp [hp]) (.refl _) (.refl _)

theorem s_Delete {I : Gh} {L : List Seg} {a : Option Addr} {m c : Nat} {S0 : Seg} {ps : List PF} (ho : FOwn pcells 53 I a m c S0 ps) (i : Nat) (hi : i < m) : PM Try.prog 24 #[.slice a m c, .int .i64 (i : Int), .int .i64 ((i : Int) + 1)] I L S0 fun K S v => ∃ a' m' c', v = .slice a' m' c' ∧ FOwn pcells 53 K a' m' c' S (ps.take i ++ ps.drop (i + 1)) := by
  refine PM.of (n := 33) Try.func24 rfl Try.ntmps24 rfl fun I0 L0 hI0 hL0 => ?_
  have ho := ho.mono hI0
  have e1 := ho.len
  have few := ho.few
  have hle := ho.row.le
  have hmx := hle.2
  have hmc := hle.1
  unfold maxLen at hmx
  refine EW_seq ?_
  -- region 0  slices.go:224
  refine EW_region ?_
  refine EL_s rfl rfl rfl (os_assign rfl) ?_
  refine EL_nil ?_
  refine EQ_then (EQ_wp ?_)
  refine EW_seq ?_
  -- region 1  slices.go:225
  refine EW_region ?_
  refine EL_s rfl rfl rfl (os_move rfl) ?_
  refine EL_s rfl rfl rfl (os_move rfl) ?_
  refine EL_s rfl rfl rfl (os_move rfl) ?_
  refine EL_s rfl rfl rfl (os_move rfl) ?_
  refine EL_s rfl rfl rfl (os_len rfl sl28) ?_
  refine EL_s rfl rfl rfl (os_slice3 i (i + 1) m rfl rfl rfl rfl sl28 rfl (by omega) rfl (by omega) (by omega) (by omega)) ?_
  refine EL_nil ?_
  refine EQ_then (EQ_wp ?_)
  refine EW_seq ?_
  refine EW_seq ?_
  -- region 2  slices.go:227
  refine EW_region ?_
  refine EL_s rfl rfl rfl (os_move rfl) ?_
  refine EL_s rfl rfl rfl (os_move rfl) ?_
  refine EL_s rfl rfl rfl (os_eql rfl rfl) ?_
  refine EL_nil ?_
  refine EQ_then (EQ_wp ?_)
  refine EW_cond rfl (fun h => ?_) (fun h => ?_)
  · try simp only [decide_eq_true_eq, decide_eq_false_iff_not, Bool.not_eq_true', Bool.not_eq_false'] at h
    exact absurd h (by omega)
  · try simp only [decide_eq_true_eq, decide_eq_false_iff_not, Bool.not_eq_true', Bool.not_eq_false'] at h
    refine EW_skip ?_
    refine EQ_then (EQ_wp ?_)
    refine EW_seq ?_
    -- region 4  slices.go:231
    refine EW_region ?_
    refine EL_s rfl rfl rfl (os_move rfl) ?_
    refine EL_s rfl rfl rfl (os_len rfl sl28) ?_
    refine EL_s rfl rfl rfl (os_assign rfl) ?_
    refine EL_nil ?_
    refine EQ_then (EQ_wp ?_)
    refine EW_seq ?_
    -- region 5 DRAWN  slices.go:232
    refine EW_draw [] [.s, .s, .s, .s, .s, .s, .x, .s] [0, 1, 2, 3, 4, 5, 6, 7] mixed (by kernel_rfl) (by kernel_rfl) rfl ?_
    refine EP_s rfl rfl rfl rfl rfl (by exact (os_move rfl)) ?_
    refine EP_s rfl rfl rfl rfl rfl (by exact (os_move rfl)) ?_
    refine EP_s rfl rfl rfl rfl rfl (by exact (os_slice_to i rfl rfl rfl sl28 (by omega))) ?_
    refine EP_s rfl rfl rfl rfl rfl (by exact (os_move rfl)) ?_
    refine EP_s rfl rfl rfl rfl rfl (by exact (os_move rfl)) ?_
    refine EP_s rfl rfl rfl rfl rfl (by exact (os_sub_slice (k := .i64) (k' := .i64) (i + 1) m rfl sl28 ⟨_, rfl, by omega⟩ rfl (by omega) (by omega))) ?_
    refine EP_y rfl rfl rfl rfl rfl (by exact (ox_append rfl rfl sl28 z53 rfl (by decide) (ho.row.take i (by omega)) pick0 ((ho.row'.sub (by decide) (by omega : i + 1 ≤ m) (Nat.le_refl m)).src (by decide) (fun x hx => flat_one pcells_one ps x (mem_flat_extract hx))) ((ho.row' (L := L0)).sub (by decide) (by omega : i + 1 ≤ m) (Nat.le_refl m)).nil (by omega) (by unfold maxLen; omega))) ?_
    rintro L4 v26 ⟨a1, c1, S1, rfl, rfl, ho1, hn1, hc1⟩
    refine EP_s rfl rfl rfl rfl rfl (by exact (os_assign rfl)) ?_
    refine EP_nil ?_
    refine EQ_then (EQ_wp ?_)
    refine EW_seq ?_
    -- region 6  slices.go:233
    refine EW_region ?_
    refine EL_s rfl rfl rfl (os_move rfl) ?_
    refine EL_s rfl rfl rfl (os_move rfl) ?_
    refine EL_s rfl rfl rfl (os_len rfl sl28) ?_
    refine EL_s rfl rfl rfl (os_move rfl) ?_
    refine EL_s rfl rfl rfl (os_sub_slice (k := .i64) (k' := .i64) (i + (m - (i + 1))) m rfl sl28 ⟨_, rfl, by omega⟩ ⟨_, rfl, by omega⟩ (by omega) (by omega)) ?_
    refine EL_z rfl rfl (ox_clear rfl sl28 z53 rfl rfl ho1 pick0 (Nat.le_refl _) (by omega) (by omega)) ?_
    rintro L5 v27 ⟨S2, rfl, ho2⟩
    refine EL_nil ?_
    refine EQ_then (EQ_wp ?_)
    refine EW_seq ?_
    -- region 7  slices.go:234
    refine EW_region ?_
    refine EL_s rfl rfl rfl (os_move rfl) ?_
    refine EL_s rfl rfl rfl (os_assign rfl) ?_
    refine EL_nil ?_
    refine EQ_then (EQ_wp ?_)
    refine EW_ret ?_
    exact px_ret1 _ Try.results24 (rv_tmp rfl) (.refl _) ((Incl.refl _).cons _) ⟨a1, i + (m - (i + 1)), c1, rfl, ⟨by have h5 := ho2; rw [extract_end _ _ (by rw [List.length_map]; exact e1.symm)] at h5; rw [List.map_append, List.map_take, List.map_drop]; exact h5, fun p hp => ho.ok p ((List.mem_append.1 hp).elim List.mem_of_mem_take List.mem_of_mem_drop), by rw [List.length_append, List.length_take, List.length_drop]; omega⟩⟩ (.inl rfl)


end Go.Proofs.Ytodkbhbbdnjlcaa
