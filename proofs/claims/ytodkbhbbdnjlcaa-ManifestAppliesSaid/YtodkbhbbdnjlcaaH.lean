/- Proved here: the part H of the proof that the law of this seat returns true for every input; no condition. -/
import Derived.Test.YtodkbhbbdnjlcaaG
set_option maxRecDepth 20000
set_option linter.unusedVariables false
set_option linter.unusedSimpArgs false
namespace Go.Proofs.Ytodkbhbbdnjlcaa
open Go Go.Gl


def nub (l : List Int) : List Int := l.foldl (fun acc z => if z ∈ acc then acc else acc ++ [z]) []
theorem nub_snoc (l : List Int) (z : Int) : nub (l ++ [z]) = if z ∈ nub l then nub l else nub l ++ [z] := by
  unfold nub
  rw [List.foldl_append]
  rfl
theorem nub_mem (l : List Int) (z : Int) : z ∈ nub l ↔ z ∈ l := by
  have key : ∀ (k : Nat) (l : List Int), l.length = k → ∀ z, z ∈ nub l ↔ z ∈ l := by
    intro k
    induction k with
    | zero => intro l hl z; rw [List.eq_nil_of_length_eq_zero hl]; simp [nub]
    | succ k ih =>
      intro l hl z
      have hne : l ≠ [] := fun h => by rw [h] at hl; cases hl
      have e := List.dropLast_concat_getLast hne
      have hd : l.dropLast.length = k := by simp [hl]
      rw [← e, nub_snoc]
      have h1 := ih l.dropLast hd
      split
      · rename_i hz
        rw [h1] at hz
        simp only [List.mem_append, List.mem_singleton, h1]
        constructor
        · exact .inl
        · rintro (h | h)
          · exact h
          · rw [h]; exact hz
      · simp [h1]
  exact key _ l rfl z
theorem nub_len (l : List Int) : (nub l).length ≤ l.length ∧ ((nub l).length = l.length ↔ l.Nodup) := by
  have key : ∀ (k : Nat) (l : List Int), l.length = k → (nub l).length ≤ l.length ∧ ((nub l).length = l.length ↔ l.Nodup) := by
    intro k
    induction k with
    | zero => intro l hl; rw [List.eq_nil_of_length_eq_zero hl]; simp [nub]
    | succ k ih =>
      intro l hl
      have hne : l ≠ [] := fun h => by rw [h] at hl; cases hl
      have e := List.dropLast_concat_getLast hne
      have hd : l.dropLast.length = k := by simp [hl]
      obtain ⟨h1, h2⟩ := ih l.dropLast hd
      rw [← e, nub_snoc]
      split
      · rename_i hz
        rw [nub_mem] at hz
        refine ⟨by simp; omega, ?_⟩
        constructor
        · intro h; simp at h; omega
        · intro h
          rw [List.nodup_append] at h
          exact absurd rfl (h.2.2 _ hz _ (by simp))
      · rename_i hz
        rw [nub_mem] at hz
        refine ⟨by simp; omega, ?_⟩
        simp only [List.length_append, List.length_singleton, Nat.add_right_cancel_iff]
        rw [h2, List.nodup_append]
        constructor
        · intro h; exact ⟨h, by simp, fun x hx y hy => by simp at hy; subst hy; intro e; exact hz (e ▸ hx)⟩
        · intro h; exact h.1
  exact key _ l rfl
def RightToM (v : V) (i : Nat) : Prop := ∀ j f, j < i → v.fs[j]? = some f → okF v.nx f ∧ ∀ g, 0 < j → v.fs[j - 1]? = some g → cmpF g f < 0 ∧ touchF g f = false
open Classical in
noncomputable def rightM (v : V) : Bool := decide (RightToM v v.fs.length ∧ (v.fs.map (·.num)).Nodup)
theorem rightM_iff (v : V) : rightM v = true ↔ RightToM v v.fs.length ∧ (v.fs.map (·.num)).Nodup := by simp [rightM]
theorem rightM_no {v : V} {i : Nat} {f : Fl} (hx : v.fs[i]? = some f) (h : ¬ okF v.nx f) : rightM v = false := by
  rw [Bool.eq_false_iff]
  intro hr
  exact h (((rightM_iff v).1 hr).1 i f (List.getElem?_eq_some_iff.1 hx).1 hx).1
theorem rightM_no2 {v : V} {i : Nat} {f g : Fl} (hx : v.fs[i]? = some f) (hi : 0 < i) (hy : v.fs[i - 1]? = some g) (h : ¬ (cmpF g f < 0 ∧ touchF g f = false)) : rightM v = false := by
  rw [Bool.eq_false_iff]
  intro hr
  exact h ((((rightM_iff v).1 hr).1 i f (List.getElem?_eq_some_iff.1 hx).1 hx).2 g hi hy)
theorem RightToM.snoc {v : V} {i : Nat} {f : Fl} (h : RightToM v i) (hx : v.fs[i]? = some f) (ho : okF v.nx f) (hp : ∀ g, 0 < i → v.fs[i - 1]? = some g → cmpF g f < 0 ∧ touchF g f = false) : RightToM v (i + 1) := by
  intro j f' hj hf
  by_cases e : j = i
  · subst e
    rw [hx] at hf
    cases hf
    exact ⟨ho, hp⟩
  · exact h j f' (by omega) hf

theorem m_Right {I : Gh} {L : List Seg} {r : Vr} (hr : r.Ok pcells I) : PC Try.prog 7 #[r.v] I L fun K v => v = .bool (rightM r.abs) := by
  refine PC.of (n := 75) Try.func7 rfl Try.ntmps7 rfl fun I0 L0 hI0 hL0 => ?_
  have hr := hr.mono hI0
  have e1 := hr.row.len
  have few := hr.row.few
  refine EW_seq ?_
  -- region 0  manifest.go:74
  refine EW_region ?_
  refine EL_a rfl rfl rfl (oa_box rfl) ?_; intro b1
  refine EL_s rfl rfl rfl (os_assign rfl) ?_
  refine EL_nil ?_
  refine EQ_then (EQ_wp ?_)
  refine EW_seq ?_
  -- region 1  manifest.go:75
  refine EW_region ?_
  refine EL_a rfl rfl rfl (oa_makeMap) ?_; intro b6
  refine EL_s rfl rfl rfl (os_assign rfl) ?_
  refine EL_nil ?_
  refine EQ_then (EQ_wp ?_)
  refine EW_seq ?_
  refine EW_seq ?_
  -- region 2  manifest.go:76
  refine EW_region ?_
  refine EL_s rfl rfl rfl (os_field rfl fl30_0) ?_
  refine EL_s rfl rfl rfl (os_load_one rfl one28 (cells_own (own_tail own_head) rfl)) ?_
  refine EL_s rfl rfl rfl (os_len rfl sl28) ?_
  refine EL_s rfl rfl rfl (os_move rfl) ?_
  refine EL_nil ?_
  refine EQ_then (EQ_wp ?_)
  refine EW_block ?_
  refine EW_loop (σ := Nat × Array MapEntry × Nat) (fun ⟨i, es, cl⟩ => [(1, .pointer (some ⟨b1, 0, none⟩)), (3, .map (some b6)), (8, r.h.v), (9, .int .i64 (r.h.n : Int)), (10, .int .i64 (i : Int))]) (fun ⟨i, es, cl⟩ => I0) (fun ⟨i, es, cl⟩ => [(b6, .map es cl)] :: [(b1, .cells r.v.cells 30)] :: L0) (fun ⟨i, es, cl⟩ => i ≤ r.h.n ∧ MapK es .u64 .i64 (nub ((r.ps.take i).map (·.f.num))) ∧ RightToM r.abs i) (fun ⟨i, es, cl⟩ => r.h.n - i) (0, #[], 0) ⟨Nat.zero_le _, MapK.empty _ _, fun j f hj => absurd hj (Nat.not_lt_zero _)⟩ (by exact ⟨rfl, rfl, rfl, rfl, rfl, trivial⟩) (fun w h => h) ?_
  rintro ⟨i, es, cl⟩ ⟨hi, hm, hri⟩
  refine EW_seq ?_
  -- region 3  manifest.go:76
  refine EW_region ?_
  refine EL_s rfl rfl rfl (os_lss rfl rfl) ?_
  refine EL_nil ?_
  refine EQ_then (EQ_wp ?_)
  refine EW_seq ?_
  refine EW_cond rfl (fun h => ?_) (fun h => ?_)
  · try simp only [decide_eq_true_eq, decide_eq_false_iff_not, Bool.not_eq_true', Bool.not_eq_false'] at h
    refine EW_skip ?_
    refine EQ_then (EQ_wp ?_)
    refine EW_seq ?_
    refine EW_block ?_
    refine EW_seq ?_
    obtain ⟨x, hx⟩ := get_some (l := r.ps) (k := i) (by omega)
    have hxo := hr.row.okAt hx
    -- region 4  manifest.go:76
    refine EW_region ?_
    refine EL_s rfl rfl rfl (os_move rfl) ?_
    refine EL_s rfl rfl rfl (os_at (i) rfl rfl (by omega) sl28 (by omega) (hr.row.row.some (by omega))) ?_
    refine EL_s rfl rfl rfl (os_load_agg (cs := pcells x) rfl agg53 ((hr.row.get hx).mono (.refl _) (.nil _))) ?_
    refine EL_a rfl rfl rfl (oa_alloc z53) ?_; intro b5
    refine EL_s rfl rfl rfl (os_assign rfl) ?_
    refine EL_u rfl rfl (ox_store rfl rfl sz53 rfl (by rfl) (.head .head)) ?_
    refine EL_nil ?_
    refine EQ_then (EQ_wp ?_)
    refine EW_seq ?_
    -- region 5  manifest.go:77
    refine EW_region ?_
    refine EL_s rfl rfl rfl (os_move rfl) ?_
    refine EL_s rfl rfl rfl (os_field rfl fl53_1) ?_
    refine EL_s rfl rfl rfl (os_load_one rfl one23 (cells_own own_head rfl)) ?_
    refine EL_e rfl rfl rfl (os_lookup_int rfl rfl map58 int23 z3 hm (.inr (own_tail own_head))) ?_; intro z18
    refine EL_s rfl rfl rfl (os_add rfl rfl) ?_
    refine EL_z rfl rfl (ox_mapPut_int rfl rfl rfl map58 int23 hm (pickS pick0)) ?_
    rintro L4 v4 ⟨es2, cl2, rfl, hm2⟩
    refine EL_nil ?_
    refine EQ_then (EQ_wp ?_)
    refine EW_seq ?_
    refine EW_seq ?_
    -- region 6  manifest.go:78
    refine EW_region ?_
    refine EL_s rfl rfl rfl (os_field rfl fl53_2) ?_
    refine EL_s rfl rfl rfl (os_load_one rfl one3 (cells_own (own_tail own_head) rfl)) ?_
    refine EL_s rfl rfl rfl (os_lss rfl rfl) ?_
    refine EL_s rfl rfl rfl (os_move rfl) ?_
    refine EL_split (t := 23) rfl (fun h => ?_) (fun h => ?_)
    · try simp only [decide_eq_true_eq, decide_eq_false_iff_not, Bool.not_eq_true', Bool.not_eq_false'] at h
      refine EL_no rfl rfl rfl rfl rfl rfl ?_
      refine EL_no rfl rfl rfl rfl rfl rfl ?_
      refine EL_no rfl rfl rfl rfl rfl rfl ?_
      refine EL_s rfl rfl rfl (os_pick_t rfl rfl) ?_
      refine EL_s rfl rfl rfl (os_move rfl) ?_
      refine EL_no rfl rfl rfl rfl rfl rfl ?_
      refine EL_no rfl rfl rfl rfl rfl rfl ?_
      refine EL_no rfl rfl rfl rfl rfl rfl ?_
      refine EL_no rfl rfl rfl rfl rfl rfl ?_
      refine EL_no rfl rfl rfl rfl rfl rfl ?_
      refine EL_no rfl rfl rfl rfl rfl rfl ?_
      refine EL_no rfl rfl rfl rfl rfl rfl ?_
      refine EL_no rfl rfl rfl rfl rfl rfl ?_
      refine EL_s rfl rfl rfl (os_pick_t rfl rfl) ?_
      refine EL_s rfl rfl rfl (os_move rfl) ?_
      refine EL_no rfl rfl rfl rfl rfl rfl ?_
      refine EL_no rfl rfl rfl rfl rfl rfl ?_
      refine EL_no rfl rfl rfl rfl rfl rfl ?_
      refine EL_no rfl rfl rfl rfl rfl rfl ?_
      refine EL_no rfl rfl rfl rfl rfl rfl ?_
      refine EL_s rfl rfl rfl (os_pick_t rfl rfl) ?_
      refine EL_nil ?_
      refine EQ_then (EQ_wp ?_)
      refine EW_true rfl ?_
      refine EW_seq ?_
      -- region 7  manifest.go:79
      refine EW_region ?_
      refine EL_s rfl rfl rfl (os_assign rfl) ?_
      refine EL_nil ?_
      refine EQ_then (EQ_wp ?_)
      refine EW_ret ?_
      refine EQ_then_ret (EQ_block_ret (EQ_then_ret (EQ_then_ret (EQ_block_ret (EQ_then_ret (?_))))))
      exact pc_ret1 Try.results7 (rv_tmp rfl) (.refl _) ((((Incl.refl _).skip _).skip _).skip _) (by rw [rightM_no (abs_get hx) (fun hk => by obtain ⟨h1, h2, h3, h4⟩ := hk; simp only [Vr.abs] at h3; omega)]) (.inl rfl)
    · try simp only [decide_eq_true_eq, decide_eq_false_iff_not, Bool.not_eq_true', Bool.not_eq_false'] at h
      refine EL_yes (j := 3) (d := 23) (b := false) rfl rfl rfl ?_
      refine EL_s rfl rfl rfl (os_field rfl fl53_2) ?_
      refine EL_yes (j := 3) (d := 23) (b := false) rfl rfl rfl ?_
      refine EL_s rfl rfl rfl (os_load_one rfl one3 (cells_own (own_tail own_head) rfl)) ?_
      refine EL_yes (j := 3) (d := 23) (b := false) rfl rfl rfl ?_
      refine EL_s rfl rfl rfl (os_geq rfl rfl) ?_
      refine EL_s rfl rfl rfl (os_pick_f rfl rfl) ?_
      refine EL_s rfl rfl rfl (os_move rfl) ?_
      refine EL_split (t := 28) rfl (fun h => ?_) (fun h => ?_)
      · try simp only [decide_eq_true_eq, decide_eq_false_iff_not, Bool.not_eq_true', Bool.not_eq_false'] at h
        refine EL_no rfl rfl rfl rfl rfl rfl ?_
        refine EL_no rfl rfl rfl rfl rfl rfl ?_
        refine EL_no rfl rfl rfl rfl rfl rfl ?_
        refine EL_no rfl rfl rfl rfl rfl rfl ?_
        refine EL_no rfl rfl rfl rfl rfl rfl ?_
        refine EL_no rfl rfl rfl rfl rfl rfl ?_
        refine EL_no rfl rfl rfl rfl rfl rfl ?_
        refine EL_no rfl rfl rfl rfl rfl rfl ?_
        refine EL_s rfl rfl rfl (os_pick_t rfl rfl) ?_
        refine EL_s rfl rfl rfl (os_move rfl) ?_
        refine EL_no rfl rfl rfl rfl rfl rfl ?_
        refine EL_no rfl rfl rfl rfl rfl rfl ?_
        refine EL_no rfl rfl rfl rfl rfl rfl ?_
        refine EL_no rfl rfl rfl rfl rfl rfl ?_
        refine EL_no rfl rfl rfl rfl rfl rfl ?_
        refine EL_s rfl rfl rfl (os_pick_t rfl rfl) ?_
        refine EL_nil ?_
        refine EQ_then (EQ_wp ?_)
        refine EW_true rfl ?_
        refine EW_seq ?_
        -- region 7  manifest.go:79
        refine EW_region ?_
        refine EL_s rfl rfl rfl (os_assign rfl) ?_
        refine EL_nil ?_
        refine EQ_then (EQ_wp ?_)
        refine EW_ret ?_
        refine EQ_then_ret (EQ_block_ret (EQ_then_ret (EQ_then_ret (EQ_block_ret (EQ_then_ret (?_))))))
        exact pc_ret1 Try.results7 (rv_tmp rfl) (.refl _) ((((Incl.refl _).skip _).skip _).skip _) (by rw [rightM_no (abs_get hx) (fun hk => by obtain ⟨h1, h2, h3, h4⟩ := hk; simp only [Vr.abs] at h3; omega)]) (.inl rfl)
      · try simp only [decide_eq_true_eq, decide_eq_false_iff_not, Bool.not_eq_true', Bool.not_eq_false'] at h
        refine EL_yes (j := 8) (d := 28) (b := false) rfl rfl rfl ?_
        refine EL_s rfl rfl rfl (os_field rfl fl53_0) ?_
        refine EL_yes (j := 8) (d := 28) (b := false) rfl rfl rfl ?_
        refine EL_s rfl rfl rfl (os_field rfl fl51_0) ?_
        refine EL_yes (j := 8) (d := 28) (b := false) rfl rfl rfl ?_
        refine EL_s rfl rfl rfl (os_load_one rfl one49 (cells_own (own_tail own_head) rfl)) ?_
        refine EL_yes (j := 8) (d := 28) (b := false) rfl rfl rfl ?_
        refine EL_s rfl rfl rfl (os_field rfl fl53_0) ?_
        refine EL_yes (j := 8) (d := 28) (b := false) rfl rfl rfl ?_
        refine EL_s rfl rfl rfl (os_field rfl fl51_1) ?_
        refine EL_yes (j := 8) (d := 28) (b := false) rfl rfl rfl ?_
        refine EL_s rfl rfl rfl (os_load_one rfl one49 (cells_own (own_tail own_head) rfl)) ?_
        refine EL_yes (j := 8) (d := 28) (b := false) rfl rfl rfl ?_
        refine EL_s rfl rfl rfl (os_call (vs := [_, _]) body16 rfl (codec_Cmp hxo.first.up hxo.last.up)) ?_
        refine EL_yes (j := 8) (d := 28) (b := false) rfl rfl rfl ?_
        refine EL_s rfl rfl rfl (os_gtr rfl rfl) ?_
        refine EL_s rfl rfl rfl (os_pick_f rfl rfl) ?_
        refine EL_s rfl rfl rfl (os_move rfl) ?_
        refine EL_split (t := 38) rfl (fun h => ?_) (fun h => ?_)
        · try simp only [decide_eq_true_eq, decide_eq_false_iff_not, Bool.not_eq_true', Bool.not_eq_false'] at h
          refine EL_no rfl rfl rfl rfl rfl rfl ?_
          refine EL_no rfl rfl rfl rfl rfl rfl ?_
          refine EL_no rfl rfl rfl rfl rfl rfl ?_
          refine EL_no rfl rfl rfl rfl rfl rfl ?_
          refine EL_no rfl rfl rfl rfl rfl rfl ?_
          refine EL_s rfl rfl rfl (os_pick_t rfl rfl) ?_
          refine EL_nil ?_
          refine EQ_then (EQ_wp ?_)
          refine EW_true rfl ?_
          refine EW_seq ?_
          -- region 7  manifest.go:79
          refine EW_region ?_
          refine EL_s rfl rfl rfl (os_assign rfl) ?_
          refine EL_nil ?_
          refine EQ_then (EQ_wp ?_)
          refine EW_ret ?_
          refine EQ_then_ret (EQ_block_ret (EQ_then_ret (EQ_then_ret (EQ_block_ret (EQ_then_ret (?_))))))
          exact pc_ret1 Try.results7 (rv_tmp rfl) (.refl _) ((((Incl.refl _).skip _).skip _).skip _) (by rw [rightM_no (abs_get hx) (fun hk => by obtain ⟨h1, h2, h3, h4⟩ := hk; simp only [Vr.abs] at h3; omega)]) (.inl rfl)
        · try simp only [decide_eq_true_eq, decide_eq_false_iff_not, Bool.not_eq_true', Bool.not_eq_false'] at h
          refine EL_yes (j := 18) (d := 38) (b := false) rfl rfl rfl ?_
          refine EL_s rfl rfl rfl (os_field rfl fl53_1) ?_
          refine EL_yes (j := 18) (d := 38) (b := false) rfl rfl rfl ?_
          refine EL_s rfl rfl rfl (os_load_one rfl one23 (cells_own (own_tail own_head) rfl)) ?_
          refine EL_yes (j := 18) (d := 38) (b := false) rfl rfl rfl ?_
          refine EL_s rfl rfl rfl (os_field rfl fl30_1) ?_
          refine EL_yes (j := 18) (d := 38) (b := false) rfl rfl rfl ?_
          refine EL_s rfl rfl rfl (os_load_one rfl one23 (cells_own (own_tail (own_tail own_head)) rfl)) ?_
          refine EL_yes (j := 18) (d := 38) (b := false) rfl rfl rfl ?_
          refine EL_s rfl rfl rfl (os_geq rfl rfl) ?_
          refine EL_s rfl rfl rfl (os_pick_f rfl rfl) ?_
          refine EL_nil ?_
          refine EQ_then (EQ_wp ?_)
          refine EW_cond rfl (fun h => ?_) (fun h => ?_)
          · try simp only [decide_eq_true_eq, decide_eq_false_iff_not, Bool.not_eq_true', Bool.not_eq_false'] at h
            refine EW_seq ?_
            -- region 7  manifest.go:79
            refine EW_region ?_
            refine EL_s rfl rfl rfl (os_assign rfl) ?_
            refine EL_nil ?_
            refine EQ_then (EQ_wp ?_)
            refine EW_ret ?_
            refine EQ_then_ret (EQ_block_ret (EQ_then_ret (EQ_then_ret (EQ_block_ret (EQ_then_ret (?_))))))
            exact pc_ret1 Try.results7 (rv_tmp rfl) (.refl _) ((((Incl.refl _).skip _).skip _).skip _) (by rw [rightM_no (abs_get hx) (fun hk => by obtain ⟨h1, h2, h3, h4⟩ := hk; simp only [Vr.abs] at h3; omega)]) (.inl rfl)
          · try simp only [decide_eq_true_eq, decide_eq_false_iff_not, Bool.not_eq_true', Bool.not_eq_false'] at h
            refine EW_skip ?_
            refine EQ_then (EQ_wp ?_)
            refine EW_seq ?_
            -- region 8 DRAWN  manifest.go:81
            refine EW_draw [] [.s, .s, .s, .s, .s, .s, .s, .s, .s, .s, .s, .s, .s, .s, .s, .s, .s, .s, .s, .s, .s, .s, .s] [0, 1, 2, 3, 4, 5, 6, 7, 8, 9, 10, 11, 12, 13, 14, 15, 16, 17, 18, 19, 20, 21, 22] mixed (by kernel_rfl) (by kernel_rfl) rfl ?_
            refine EP_s rfl rfl rfl rfl rfl (by exact (os_move rfl)) ?_
            refine EP_s rfl rfl rfl rfl rfl (by exact (os_gtr rfl rfl)) ?_
            refine EP_s rfl rfl rfl rfl rfl (by exact (os_move rfl)) ?_
            refine EP_split (t := 47) rfl (fun h => ?_) (fun h => ?_)
            · try simp only [decide_eq_true_eq, decide_eq_false_iff_not, Bool.not_eq_true', Bool.not_eq_false'] at h
              refine EP_s_yes rfl rfl rfl rfl rfl rfl rfl (by exact (os_field rfl fl30_0)) ?_
              refine EP_s_yes rfl rfl rfl rfl rfl rfl rfl (by exact (os_load_one rfl one28 (cells_own (own_tail (own_tail own_head)) rfl))) ?_
              refine EP_s_yes rfl rfl rfl rfl rfl rfl rfl (by exact (os_move rfl)) ?_
              refine EP_s_yes rfl rfl rfl rfl rfl rfl rfl (by exact (os_sub_in rfl rfl (IntWalk.i64_in _ (by omega)))) ?_
              obtain ⟨y, hy⟩ := get_some (l := r.ps) (k := i - 1) (by omega)
              have hyo := hr.row.okAt hy
              refine EP_s_yes rfl rfl rfl rfl rfl rfl rfl (by exact (os_at ((i - 1)) rfl rfl (by omega) sl28 (by omega) (hr.row.row.some (by omega)))) ?_
              refine EP_s_yes rfl rfl rfl rfl rfl rfl rfl (by exact (os_load_agg (cs := pcells y) rfl agg53 ((hr.row.get hy).mono (.refl _) (.nil _)))) ?_
              refine EP_s_yes rfl rfl rfl rfl rfl rfl rfl (by exact (os_load_agg (cs := pcells x) rfl agg53 (cells_own (own_tail own_head) rfl))) ?_
              refine EP_s_yes rfl rfl rfl rfl rfl rfl rfl (by exact (os_call (vs := [_, _]) body17 rfl (m_compare hyo hxo))) ?_
              refine EP_s_yes rfl rfl rfl rfl rfl rfl rfl (by exact (os_geq rfl rfl)) ?_
              refine EP_s_yes rfl rfl rfl rfl rfl rfl rfl (by exact (os_move rfl)) ?_
              refine EP_split (t := 57) rfl (fun h => ?_) (fun h => ?_)
              · try simp only [decide_eq_true_eq, decide_eq_false_iff_not, Bool.not_eq_true', Bool.not_eq_false'] at h
                refine EP_no rfl rfl rfl rfl rfl rfl rfl ?_
                refine EP_no rfl rfl rfl rfl rfl rfl rfl ?_
                refine EP_no rfl rfl rfl rfl rfl rfl rfl ?_
                refine EP_no rfl rfl rfl rfl rfl rfl rfl ?_
                refine EP_no rfl rfl rfl rfl rfl rfl rfl ?_
                refine EP_no rfl rfl rfl rfl rfl rfl rfl ?_
                refine EP_no rfl rfl rfl rfl rfl rfl rfl ?_
                refine EP_no rfl rfl rfl rfl rfl rfl rfl ?_
                refine EP_s_yes rfl rfl rfl rfl rfl rfl rfl (by exact (os_pick_t rfl rfl)) ?_
                refine EP_s rfl rfl rfl rfl rfl (by exact (os_pick_t rfl rfl)) ?_
                refine EP_nil ?_
                refine EQ_then (EQ_wp ?_)
                refine EW_true rfl ?_
                refine EW_seq ?_
                -- region 9  manifest.go:82
                refine EW_region ?_
                refine EL_s rfl rfl rfl (os_assign rfl) ?_
                refine EL_nil ?_
                refine EQ_then (EQ_wp ?_)
                refine EW_ret ?_
                refine EQ_block_ret (EQ_then_ret (EQ_then_ret (EQ_block_ret (EQ_then_ret (?_)))))
                exact pc_ret1 Try.results7 (rv_tmp rfl) (.refl _) ((((Incl.refl _).skip _).skip _).skip _) (by rw [rightM_no2 (abs_get hx) (by omega) (abs_get hy) (fun hk => by obtain ⟨h1, h2⟩ := hk; omega)]) (.inl rfl)
              · try simp only [decide_eq_true_eq, decide_eq_false_iff_not, Bool.not_eq_true', Bool.not_eq_false'] at h
                refine EP_s_yes rfl rfl rfl rfl rfl rfl rfl (by exact (os_field rfl fl30_0)) ?_
                refine EP_s_yes rfl rfl rfl rfl rfl rfl rfl (by exact (os_load_one rfl one28 (cells_own (own_tail (own_tail own_head)) rfl))) ?_
                refine EP_s_yes rfl rfl rfl rfl rfl rfl rfl (by exact (os_move rfl)) ?_
                refine EP_s_yes rfl rfl rfl rfl rfl rfl rfl (by exact (os_sub_in rfl rfl (IntWalk.i64_in _ (by omega)))) ?_
                refine EP_s_yes rfl rfl rfl rfl rfl rfl rfl (by exact (os_at ((i - 1)) rfl rfl (by omega) sl28 (by omega) (hr.row.row.some (by omega)))) ?_
                refine EP_s_yes rfl rfl rfl rfl rfl rfl rfl (by exact (os_load_agg (cs := pcells y) rfl agg53 ((hr.row.get hy).mono (.refl _) (.nil _)))) ?_
                refine EP_s_yes rfl rfl rfl rfl rfl rfl rfl (by exact (os_load_agg (cs := pcells x) rfl agg53 (cells_own (own_tail own_head) rfl))) ?_
                refine EP_s_yes rfl rfl rfl rfl rfl rfl rfl (by exact (os_call (vs := [_, _]) body18 rfl (m_touch hyo hxo))) ?_
                refine EP_s_yes rfl rfl rfl rfl rfl rfl rfl (by exact (os_pick_f rfl rfl)) ?_
                refine EP_s rfl rfl rfl rfl rfl (by exact (os_pick_t rfl rfl)) ?_
                refine EP_nil ?_
                refine EQ_then (EQ_wp ?_)
                refine EW_cond rfl (fun h => ?_) (fun h => ?_)
                · try simp only [decide_eq_true_eq, decide_eq_false_iff_not, Bool.not_eq_true', Bool.not_eq_false'] at h
                  have ht := h
                  refine EW_seq ?_
                  -- region 9  manifest.go:82
                  refine EW_region ?_
                  refine EL_s rfl rfl rfl (os_assign rfl) ?_
                  refine EL_nil ?_
                  refine EQ_then (EQ_wp ?_)
                  refine EW_ret ?_
                  refine EQ_block_ret (EQ_then_ret (EQ_then_ret (EQ_block_ret (EQ_then_ret (?_)))))
                  exact pc_ret1 Try.results7 (rv_tmp rfl) (.refl _) ((((Incl.refl _).skip _).skip _).skip _) (by rw [rightM_no2 (abs_get hx) (by omega) (abs_get hy) (fun hk => by obtain ⟨h1, h2⟩ := hk; rw [ht] at h2; cases h2)]) (.inl rfl)
                · try simp only [decide_eq_true_eq, decide_eq_false_iff_not, Bool.not_eq_true', Bool.not_eq_false'] at h
                  have ht := h
                  refine EW_skip ?_
                  refine EQ_block_normal ?_
                  refine EQ_then (EQ_wp ?_)
                  -- region 10  manifest.go:76
                  refine EW_region ?_
                  refine EL_s rfl rfl rfl (os_add_in rfl rfl (IntWalk.i64_in _ (by omega))) ?_
                  refine EL_s rfl rfl rfl (os_move rfl) ?_
                  refine EL_nil ?_
                  refine EQ_round (i + 1, es2, cl2) ?_ ?_ ?_ ?_
                  · exact ⟨by omega, by rw [take_snoc _ hx, nub_snoc]; exact hm2, hri.snoc (abs_get hx) ⟨by omega, by omega, by simp only [Vr.abs]; omega, by omega⟩ (fun g hg hgy => by rw [abs_get hy] at hgy; cases hgy; exact ⟨by omega, ht⟩)⟩
                  · first | omega | (dsimp only; omega)
                  · exact ⟨rfl, rfl, rfl, rfl, rfl, trivial⟩
                  · exact fun w h => h.incl (((((Incl.refl L0).cons _).skip _).cons _))
            · try simp only [decide_eq_true_eq, decide_eq_false_iff_not, Bool.not_eq_true', Bool.not_eq_false'] at h
              refine EP_no rfl rfl rfl rfl rfl rfl rfl ?_
              refine EP_no rfl rfl rfl rfl rfl rfl rfl ?_
              refine EP_no rfl rfl rfl rfl rfl rfl rfl ?_
              refine EP_no rfl rfl rfl rfl rfl rfl rfl ?_
              refine EP_no rfl rfl rfl rfl rfl rfl rfl ?_
              refine EP_no rfl rfl rfl rfl rfl rfl rfl ?_
              refine EP_no rfl rfl rfl rfl rfl rfl rfl ?_
              refine EP_no rfl rfl rfl rfl rfl rfl rfl ?_
              refine EP_no rfl rfl rfl rfl rfl rfl rfl ?_
              refine EP_no rfl rfl rfl rfl rfl rfl rfl ?_
              refine EP_nou rfl rfl rfl rfl rfl rfl ?_
              refine EP_nou rfl rfl rfl rfl rfl rfl ?_
              refine EP_nou rfl rfl rfl rfl rfl rfl ?_
              refine EP_nou rfl rfl rfl rfl rfl rfl ?_
              refine EP_nou rfl rfl rfl rfl rfl rfl ?_
              refine EP_nou rfl rfl rfl rfl rfl rfl ?_
              refine EP_nou rfl rfl rfl rfl rfl rfl ?_
              refine EP_nou rfl rfl rfl rfl rfl rfl ?_
              refine EP_no rfl rfl rfl rfl rfl rfl rfl ?_
              refine EP_s rfl rfl rfl rfl rfl (by exact (os_pick_f rfl rfl)) ?_
              refine EP_nil ?_
              refine EQ_then (EQ_wp ?_)
              refine EW_false rfl ?_
              refine EW_skip ?_
              refine EQ_block_normal ?_
              refine EQ_then (EQ_wp ?_)
              -- region 10  manifest.go:76
              refine EW_region ?_
              refine EL_s rfl rfl rfl (os_add_in rfl rfl (IntWalk.i64_in _ (by omega))) ?_
              refine EL_s rfl rfl rfl (os_move rfl) ?_
              refine EL_nil ?_
              refine EQ_round (i + 1, es2, cl2) ?_ ?_ ?_ ?_
              · exact ⟨by omega, by rw [take_snoc _ hx, nub_snoc]; exact hm2, hri.snoc (abs_get hx) ⟨by omega, by omega, by simp only [Vr.abs]; omega, by omega⟩ (fun g hg hgy => absurd hg (by omega))⟩
              · first | omega | (dsimp only; omega)
              · exact ⟨rfl, rfl, rfl, rfl, rfl, trivial⟩
              · exact fun w h => h.incl (((((Incl.refl L0).cons _).skip _).cons _))
  · try simp only [decide_eq_true_eq, decide_eq_false_iff_not, Bool.not_eq_true', Bool.not_eq_false'] at h
    refine EW_exit ?_
    refine EQ_then_exit (EQ_then_exit (EQ_block_exit (?_)))
    refine EQ_then (EQ_wp ?_)
    refine EW_seq ?_
    -- region 11  manifest.go:85
    refine EW_region ?_
    refine EL_s rfl rfl rfl (os_move rfl) ?_
    refine EL_s rfl rfl rfl (os_len_map rfl map58 (.inr own_head)) ?_
    refine EL_s rfl rfl rfl (os_field rfl fl30_0) ?_
    refine EL_s rfl rfl rfl (os_load_one rfl one28 (cells_own (own_tail own_head) rfl)) ?_
    refine EL_s rfl rfl rfl (os_len rfl sl28) ?_
    refine EL_s rfl rfl rfl (os_eql rfl rfl) ?_
    refine EL_s rfl rfl rfl (os_assign rfl) ?_
    refine EL_nil ?_
    refine EQ_then (EQ_wp ?_)
    refine EW_ret ?_
    exact pc_ret1 Try.results7 (rv_tmp rfl) (.refl _) (((Incl.refl _).skip _).skip _) (by
    have hn := nub_len (r.abs.fs.map (·.num))
    have hf : (r.ps.take i).map (·.f.num) = r.abs.fs.map (·.num) := by rw [List.take_of_length_le (by omega)]; simp [Vr.abs]
    rw [hf] at hm
    have hs := hm.size
    have hl : (r.abs.fs.map (·.num)).length = r.ps.length := by simp [Vr.abs]
    have hri2 : RightToM r.abs r.abs.fs.length := by rw [show r.abs.fs.length = i from by simp [Vr.abs]; omega]; exact hri
    congr 1
    rw [Bool.eq_iff_iff, rightM_iff, decide_eq_true_eq, ← hn.2]
    constructor
    · intro h; exact ⟨hri2, by omega⟩
    · rintro ⟨_, h⟩; omega) (.inl rfl)


end Go.Proofs.Ytodkbhbbdnjlcaa
