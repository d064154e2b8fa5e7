/- Proved here: the part G of the proof that the law of this seat returns true for every input; no condition. -/
import Derived.Test.YtodkbhbbdnjlcaaF
set_option maxRecDepth 20000
set_option linter.unusedVariables false
set_option linter.unusedSimpArgs false
namespace Go.Proofs.Ytodkbhbbdnjlcaa
open Go Go.Gl


def okF (nx : Int) (f : Fl) : Prop := 0 ≤ f.level ∧ f.level ≤ 3 ∧ f.num < nx ∧ cmpB f.first f.last ≤ 0
def pairR (g f : Fl) : Prop := g.num ≠ f.num ∧ aheadF g f = true ∧ ¬ (0 < f.level ∧ g.level = f.level ∧ 0 ≤ cmpB g.last f.first)
def RightTo (v : V) (i : Nat) : Prop := ∀ j f, j < i → v.fs[j]? = some f → okF v.nx f ∧ ∀ k g, k < j → v.fs[k]? = some g → pairR g f
open Classical in
noncomputable def rightR (v : V) : Bool := decide (RightTo v v.fs.length)
theorem rightR_iff (v : V) : rightR v = true ↔ RightTo v v.fs.length := by simp [rightR]
theorem rightR_no {v : V} {i : Nat} {f : Fl} (hx : v.fs[i]? = some f) (h : ¬ okF v.nx f) : rightR v = false := by
  rw [Bool.eq_false_iff]
  intro hr
  exact h ((rightR_iff v).1 hr i f (List.getElem?_eq_some_iff.1 hx).1 hx).1
theorem rightR_no2 {v : V} {i k : Nat} {f g : Fl} (hx : v.fs[i]? = some f) (hk : k < i) (hy : v.fs[k]? = some g) (h : ¬ pairR g f) : rightR v = false := by
  rw [Bool.eq_false_iff]
  intro hr
  exact h (((rightR_iff v).1 hr i f (List.getElem?_eq_some_iff.1 hx).1 hx).2 k g hk hy)
theorem abs_get {r : Vr} {i : Nat} {x : PF} (h : r.ps[i]? = some x) : r.abs.fs[i]? = some x.f := by simp [Vr.abs, h]
theorem RightTo.snoc {v : V} {i : Nat} {f : Fl} (h : RightTo v i) (hx : v.fs[i]? = some f) (ho : okF v.nx f) (hp : ∀ k g, k < i → v.fs[k]? = some g → pairR g f) : RightTo v (i + 1) := by
  intro j f' hj hf
  by_cases e : j = i
  · subst e
    rw [hx] at hf
    cases hf
    exact ⟨ho, hp⟩
  · exact h j f' (by omega) hf
theorem pair_snoc {v : V} {k : Nat} {x f : Fl} (h : ∀ j g, j < k → v.fs[j]? = some g → pairR g x) (hy : v.fs[k]? = some f) (hp : pairR f x) : ∀ j g, j < k + 1 → v.fs[j]? = some g → pairR g x := by
  intro j g hj hg
  by_cases e : j = k
  · subst e
    rw [hy] at hg
    cases hg
    exact hp
  · exact h j g (by omega) hg

theorem r_Right {I : Gh} {L : List Seg} {r : Vr} (hr : r.Ok rcells I) : PC Try.prog 8 #[r.v] I L fun K v => v = .bool (rightR r.abs) := by
  refine PC.of (n := 81) Try.func8 rfl Try.ntmps8 rfl fun I0 L0 hI0 hL0 => ?_
  have hr := hr.mono hI0
  have e1 := hr.row.len
  have few := hr.row.few
  refine EW_seq ?_
  -- region 0  ref.go:38
  refine EW_region ?_
  refine EL_a rfl rfl rfl (oa_box rfl) ?_; intro b1
  refine EL_s rfl rfl rfl (os_assign rfl) ?_
  refine EL_nil ?_
  refine EQ_then (EQ_wp ?_)
  refine EW_seq ?_
  refine EW_seq ?_
  -- region 1  ref.go:39
  refine EW_region ?_
  refine EL_s rfl rfl rfl (os_assign rfl) ?_
  refine EL_nil ?_
  refine EQ_then (EQ_wp ?_)
  refine EW_block ?_
  refine EW_loop (σ := Nat) (fun i => [(1, .pointer (some ⟨b1, 0, none⟩)), (3, .int .i64 (i : Int))]) (fun i => I0) (fun i => [(b1, .cells r.v.cells 25)] :: L0) (fun i => i ≤ r.h.n ∧ RightTo r.abs i) (fun i => r.h.n - i) 0 ⟨Nat.zero_le _, fun j f hj => absurd hj (Nat.not_lt_zero _)⟩ (by exact ⟨rfl, rfl, trivial⟩) (fun w h => h) ?_
  rintro i ⟨hi, hri⟩
  refine EW_seq ?_
  refine EW_seq ?_
  -- region 2  ref.go:39
  refine EW_region ?_
  refine EL_s rfl rfl rfl (os_move rfl) ?_
  refine EL_s rfl rfl rfl (os_field rfl fl25_0) ?_
  refine EL_s rfl rfl rfl (os_load_one rfl one22 (cells_own own_head rfl)) ?_
  refine EL_s rfl rfl rfl (os_len rfl sl22) ?_
  refine EL_s rfl rfl rfl (os_lss rfl rfl) ?_
  refine EL_nil ?_
  refine EQ_then (EQ_wp ?_)
  refine EW_cond rfl (fun h => ?_) (fun h => ?_)
  · try simp only [decide_eq_true_eq, decide_eq_false_iff_not, Bool.not_eq_true', Bool.not_eq_false'] at h
    refine EW_skip ?_
    refine EQ_then (EQ_wp ?_)
    refine EW_seq ?_
    refine EW_block ?_
    refine EW_seq ?_
    obtain ⟨x, hx⟩ := get_some (l := r.ps) (k := i) (by omega)
    have hxo := hr.row.okAt hx
    -- region 4  ref.go:40
    refine EW_region ?_
    refine EL_s rfl rfl rfl (os_field rfl fl25_0) ?_
    refine EL_s rfl rfl rfl (os_load_one rfl one22 (cells_own own_head rfl)) ?_
    refine EL_s rfl rfl rfl (os_move rfl) ?_
    refine EL_s rfl rfl rfl (os_at (i) rfl rfl (by omega) sl22 (by omega) (hr.row.row.some (by omega))) ?_
    refine EL_s rfl rfl rfl (os_load_agg (cs := rcells x) rfl agg55 ((hr.row.get hx).mono (.refl _) (.nil _))) ?_
    refine EL_a rfl rfl rfl (oa_alloc z55) ?_; intro b4
    refine EL_u rfl rfl (ox_store rfl rfl sz55 rfl (by rfl) (.head .head)) ?_
    refine EL_nil ?_
    refine EQ_then (EQ_wp ?_)
    refine EW_seq ?_
    refine EW_seq ?_
    -- region 5  ref.go:41
    refine EW_region ?_
    refine EL_s rfl rfl rfl (os_field rfl fl55_1) ?_
    refine EL_s rfl rfl rfl (os_load_one rfl one3 (cells_own own_head rfl)) ?_
    refine EL_s rfl rfl rfl (os_lss rfl rfl) ?_
    refine EL_s rfl rfl rfl (os_move rfl) ?_
    refine EL_split (t := 22) rfl (fun h => ?_) (fun h => ?_)
    · try simp only [decide_eq_true_eq, decide_eq_false_iff_not, Bool.not_eq_true', Bool.not_eq_false'] at h
      refine EL_no rfl rfl rfl rfl rfl rfl ?_
      refine EL_no rfl rfl rfl rfl rfl rfl ?_
      refine EL_no rfl rfl rfl rfl rfl rfl ?_
      refine EL_s rfl rfl rfl (os_pick_t rfl rfl) ?_
      refine EL_s rfl rfl rfl (os_move rfl) ?_
      refine EL_no rfl rfl rfl rfl rfl rfl ?_
      refine EL_no rfl rfl rfl rfl rfl rfl ?_
      refine EL_no rfl rfl rfl rfl rfl rfl ?_
      refine EL_no rfl rfl rfl rfl rfl rfl ?_
      refine EL_no rfl rfl rfl rfl rfl rfl ?_
      refine EL_s rfl rfl rfl (os_pick_t rfl rfl) ?_
      refine EL_s rfl rfl rfl (os_move rfl) ?_
      refine EL_no rfl rfl rfl rfl rfl rfl ?_
      refine EL_no rfl rfl rfl rfl rfl rfl ?_
      refine EL_no rfl rfl rfl rfl rfl rfl ?_
      refine EL_no rfl rfl rfl rfl rfl rfl ?_
      refine EL_no rfl rfl rfl rfl rfl rfl ?_
      refine EL_no rfl rfl rfl rfl rfl rfl ?_
      refine EL_s rfl rfl rfl (os_pick_t rfl rfl) ?_
      refine EL_nil ?_
      refine EQ_then (EQ_wp ?_)
      refine EW_true rfl ?_
      refine EW_seq ?_
      -- region 6  ref.go:42
      refine EW_region ?_
      refine EL_s rfl rfl rfl (os_assign rfl) ?_
      refine EL_nil ?_
      refine EQ_then (EQ_wp ?_)
      refine EW_ret ?_
      refine EQ_then_ret (EQ_block_ret (EQ_then_ret (EQ_then_ret (EQ_block_ret (EQ_then_ret (?_))))))
      exact pc_ret1 Try.results8 (rv_tmp rfl) (.refl _) (((Incl.refl _).skip _).skip _) (by rw [rightR_no (abs_get hx) (fun hk => by obtain ⟨h1, h2, h3, h4⟩ := hk; simp only [Vr.abs] at h3; omega)]) (.inl rfl)
    · try simp only [decide_eq_true_eq, decide_eq_false_iff_not, Bool.not_eq_true', Bool.not_eq_false'] at h
      refine EL_yes (j := 3) (d := 22) (b := false) rfl rfl rfl ?_
      refine EL_s rfl rfl rfl (os_field rfl fl55_1) ?_
      refine EL_yes (j := 3) (d := 22) (b := false) rfl rfl rfl ?_
      refine EL_s rfl rfl rfl (os_load_one rfl one3 (cells_own own_head rfl)) ?_
      refine EL_yes (j := 3) (d := 22) (b := false) rfl rfl rfl ?_
      refine EL_s rfl rfl rfl (os_gtr rfl rfl) ?_
      refine EL_s rfl rfl rfl (os_pick_f rfl rfl) ?_
      refine EL_s rfl rfl rfl (os_move rfl) ?_
      refine EL_split (t := 27) rfl (fun h => ?_) (fun h => ?_)
      · try simp only [decide_eq_true_eq, decide_eq_false_iff_not, Bool.not_eq_true', Bool.not_eq_false'] at h
        refine EL_no rfl rfl rfl rfl rfl rfl ?_
        refine EL_no rfl rfl rfl rfl rfl rfl ?_
        refine EL_no rfl rfl rfl rfl rfl rfl ?_
        refine EL_no rfl rfl rfl rfl rfl rfl ?_
        refine EL_no rfl rfl rfl rfl rfl rfl ?_
        refine EL_s rfl rfl rfl (os_pick_t rfl rfl) ?_
        refine EL_s rfl rfl rfl (os_move rfl) ?_
        refine EL_no rfl rfl rfl rfl rfl rfl ?_
        refine EL_no rfl rfl rfl rfl rfl rfl ?_
        refine EL_no rfl rfl rfl rfl rfl rfl ?_
        refine EL_no rfl rfl rfl rfl rfl rfl ?_
        refine EL_no rfl rfl rfl rfl rfl rfl ?_
        refine EL_no rfl rfl rfl rfl rfl rfl ?_
        refine EL_s rfl rfl rfl (os_pick_t rfl rfl) ?_
        refine EL_nil ?_
        refine EQ_then (EQ_wp ?_)
        refine EW_true rfl ?_
        refine EW_seq ?_
        -- region 6  ref.go:42
        refine EW_region ?_
        refine EL_s rfl rfl rfl (os_assign rfl) ?_
        refine EL_nil ?_
        refine EQ_then (EQ_wp ?_)
        refine EW_ret ?_
        refine EQ_then_ret (EQ_block_ret (EQ_then_ret (EQ_then_ret (EQ_block_ret (EQ_then_ret (?_))))))
        exact pc_ret1 Try.results8 (rv_tmp rfl) (.refl _) (((Incl.refl _).skip _).skip _) (by rw [rightR_no (abs_get hx) (fun hk => by obtain ⟨h1, h2, h3, h4⟩ := hk; simp only [Vr.abs] at h3; omega)]) (.inl rfl)
      · try simp only [decide_eq_true_eq, decide_eq_false_iff_not, Bool.not_eq_true', Bool.not_eq_false'] at h
        refine EL_yes (j := 8) (d := 27) (b := false) rfl rfl rfl ?_
        refine EL_s rfl rfl rfl (os_field rfl fl55_0) ?_
        refine EL_yes (j := 8) (d := 27) (b := false) rfl rfl rfl ?_
        refine EL_s rfl rfl rfl (os_load_one rfl one23 (cells_own own_head rfl)) ?_
        refine EL_yes (j := 8) (d := 27) (b := false) rfl rfl rfl ?_
        refine EL_s rfl rfl rfl (os_field rfl fl25_1) ?_
        refine EL_yes (j := 8) (d := 27) (b := false) rfl rfl rfl ?_
        refine EL_s rfl rfl rfl (os_load_one rfl one23 (cells_own (own_tail own_head) rfl)) ?_
        refine EL_yes (j := 8) (d := 27) (b := false) rfl rfl rfl ?_
        refine EL_s rfl rfl rfl (os_geq rfl rfl) ?_
        refine EL_s rfl rfl rfl (os_pick_f rfl rfl) ?_
        refine EL_s rfl rfl rfl (os_move rfl) ?_
        refine EL_split (t := 34) rfl (fun h => ?_) (fun h => ?_)
        · try simp only [decide_eq_true_eq, decide_eq_false_iff_not, Bool.not_eq_true', Bool.not_eq_false'] at h
          refine EL_no rfl rfl rfl rfl rfl rfl ?_
          refine EL_no rfl rfl rfl rfl rfl rfl ?_
          refine EL_no rfl rfl rfl rfl rfl rfl ?_
          refine EL_no rfl rfl rfl rfl rfl rfl ?_
          refine EL_no rfl rfl rfl rfl rfl rfl ?_
          refine EL_no rfl rfl rfl rfl rfl rfl ?_
          refine EL_s rfl rfl rfl (os_pick_t rfl rfl) ?_
          refine EL_nil ?_
          refine EQ_then (EQ_wp ?_)
          refine EW_true rfl ?_
          refine EW_seq ?_
          -- region 6  ref.go:42
          refine EW_region ?_
          refine EL_s rfl rfl rfl (os_assign rfl) ?_
          refine EL_nil ?_
          refine EQ_then (EQ_wp ?_)
          refine EW_ret ?_
          refine EQ_then_ret (EQ_block_ret (EQ_then_ret (EQ_then_ret (EQ_block_ret (EQ_then_ret (?_))))))
          exact pc_ret1 Try.results8 (rv_tmp rfl) (.refl _) (((Incl.refl _).skip _).skip _) (by rw [rightR_no (abs_get hx) (fun hk => by obtain ⟨h1, h2, h3, h4⟩ := hk; simp only [Vr.abs] at h3; omega)]) (.inl rfl)
        · try simp only [decide_eq_true_eq, decide_eq_false_iff_not, Bool.not_eq_true', Bool.not_eq_false'] at h
          refine EL_yes (j := 15) (d := 34) (b := false) rfl rfl rfl ?_
          refine EL_s rfl rfl rfl (os_field rfl fl55_2) ?_
          refine EL_yes (j := 15) (d := 34) (b := false) rfl rfl rfl ?_
          refine EL_s rfl rfl rfl (os_load_one rfl one49 (cells_own own_head rfl)) ?_
          refine EL_yes (j := 15) (d := 34) (b := false) rfl rfl rfl ?_
          refine EL_s rfl rfl rfl (os_field rfl fl55_3) ?_
          refine EL_yes (j := 15) (d := 34) (b := false) rfl rfl rfl ?_
          refine EL_s rfl rfl rfl (os_load_one rfl one49 (cells_own own_head rfl)) ?_
          refine EL_yes (j := 15) (d := 34) (b := false) rfl rfl rfl ?_
          refine EL_s rfl rfl rfl (os_call (vs := [_, _]) body19 rfl (ref_Cmp hxo.first.up hxo.last.up)) ?_
          refine EL_yes (j := 15) (d := 34) (b := false) rfl rfl rfl ?_
          refine EL_s rfl rfl rfl (os_gtr rfl rfl) ?_
          refine EL_s rfl rfl rfl (os_pick_f rfl rfl) ?_
          refine EL_nil ?_
          refine EQ_then (EQ_wp ?_)
          refine EW_cond rfl (fun h => ?_) (fun h => ?_)
          · try simp only [decide_eq_true_eq, decide_eq_false_iff_not, Bool.not_eq_true', Bool.not_eq_false'] at h
            refine EW_seq ?_
            -- region 6  ref.go:42
            refine EW_region ?_
            refine EL_s rfl rfl rfl (os_assign rfl) ?_
            refine EL_nil ?_
            refine EQ_then (EQ_wp ?_)
            refine EW_ret ?_
            refine EQ_then_ret (EQ_block_ret (EQ_then_ret (EQ_then_ret (EQ_block_ret (EQ_then_ret (?_))))))
            exact pc_ret1 Try.results8 (rv_tmp rfl) (.refl _) (((Incl.refl _).skip _).skip _) (by rw [rightR_no (abs_get hx) (fun hk => by obtain ⟨h1, h2, h3, h4⟩ := hk; simp only [Vr.abs] at h3; omega)]) (.inl rfl)
          · try simp only [decide_eq_true_eq, decide_eq_false_iff_not, Bool.not_eq_true', Bool.not_eq_false'] at h
            refine EW_skip ?_
            refine EQ_then (EQ_wp ?_)
            refine EW_seq ?_
            -- region 7  ref.go:44
            refine EW_region ?_
            refine EL_s rfl rfl rfl (os_assign rfl) ?_
            refine EL_nil ?_
            refine EQ_then (EQ_wp ?_)
            refine EW_block ?_
            refine EW_loop (σ := Nat) (fun k => [(1, .pointer (some ⟨b1, 0, none⟩)), (3, .int .i64 (i : Int)), (4, .pointer (some ⟨b4, 0, none⟩)), (5, .int .i64 (k : Int))]) (fun k => I0) (fun k => [(b4, .cells (rcells x).toArray 55)] :: [(b1, .cells r.v.cells 25)] :: L0) (fun k => k ≤ i ∧ ∀ j g, j < k → r.abs.fs[j]? = some g → pairR g x.f) (fun k => i - k) 0 ⟨Nat.zero_le _, fun j g hj => absurd hj (Nat.not_lt_zero _)⟩ (by exact ⟨rfl, rfl, rfl, rfl, trivial⟩) (fun w h => h) ?_
            rintro k ⟨hk, hk2⟩
            refine EW_seq ?_
            refine EW_seq ?_
            -- region 8  ref.go:44
            refine EW_region ?_
            refine EL_s rfl rfl rfl (os_move rfl) ?_
            refine EL_s rfl rfl rfl (os_move rfl) ?_
            refine EL_s rfl rfl rfl (os_lss rfl rfl) ?_
            refine EL_nil ?_
            refine EQ_then (EQ_wp ?_)
            refine EW_cond rfl (fun h => ?_) (fun h => ?_)
            · try simp only [decide_eq_true_eq, decide_eq_false_iff_not, Bool.not_eq_true', Bool.not_eq_false'] at h
              refine EW_skip ?_
              refine EQ_then (EQ_wp ?_)
              refine EW_seq ?_
              refine EW_block ?_
              refine EW_seq ?_
              obtain ⟨y, hy⟩ := get_some (l := r.ps) (k := k) (by omega)
              have hyo := hr.row.okAt hy
              -- region 10  ref.go:45
              refine EW_region ?_
              refine EL_s rfl rfl rfl (os_field rfl fl25_0) ?_
              refine EL_s rfl rfl rfl (os_load_one rfl one22 (cells_own (own_tail own_head) rfl)) ?_
              refine EL_s rfl rfl rfl (os_move rfl) ?_
              refine EL_s rfl rfl rfl (os_at (k) rfl rfl (by omega) sl22 (by omega) (hr.row.row.some (by omega))) ?_
              refine EL_s rfl rfl rfl (os_load_agg (cs := rcells y) rfl agg55 ((hr.row.get hy).mono (.refl _) (.nil _))) ?_
              refine EL_a rfl rfl rfl (oa_alloc z55) ?_; intro b6
              refine EL_u rfl rfl (ox_store rfl rfl sz55 rfl (by rfl) (.head .head)) ?_
              refine EL_nil ?_
              refine EQ_then (EQ_wp ?_)
              refine EW_seq ?_
              refine EW_seq ?_
              -- region 11  ref.go:46
              refine EW_region ?_
              refine EL_s rfl rfl rfl (os_field rfl fl55_0) ?_
              refine EL_s rfl rfl rfl (os_load_one rfl one23 (cells_own own_head rfl)) ?_
              refine EL_s rfl rfl rfl (os_field rfl fl55_0) ?_
              refine EL_s rfl rfl rfl (os_load_one rfl one23 (cells_own (own_tail own_head) rfl)) ?_
              refine EL_s rfl rfl rfl (os_eql rfl rfl) ?_
              refine EL_s rfl rfl rfl (os_move rfl) ?_
              refine EL_split (t := 57) rfl (fun h => ?_) (fun h => ?_)
              · try simp only [decide_eq_true_eq, decide_eq_false_iff_not, Bool.not_eq_true', Bool.not_eq_false'] at h
                refine EL_no rfl rfl rfl rfl rfl rfl ?_
                refine EL_no rfl rfl rfl rfl rfl rfl ?_
                refine EL_no rfl rfl rfl rfl rfl rfl ?_
                refine EL_no rfl rfl rfl rfl rfl rfl ?_
                refine EL_s rfl rfl rfl (os_pick_t rfl rfl) ?_
                refine EL_nil ?_
                refine EQ_then (EQ_wp ?_)
                refine EW_true rfl ?_
                refine EW_seq ?_
                -- region 12  ref.go:47
                refine EW_region ?_
                refine EL_s rfl rfl rfl (os_assign rfl) ?_
                refine EL_nil ?_
                refine EQ_then (EQ_wp ?_)
                refine EW_ret ?_
                refine EQ_then_ret (EQ_block_ret (EQ_then_ret (EQ_then_ret (EQ_block_ret (EQ_block_ret (EQ_then_ret (EQ_then_ret (EQ_block_ret (EQ_then_ret (?_))))))))))
                exact pc_ret1 Try.results8 (rv_tmp rfl) (.refl _) ((((Incl.refl _).skip _).skip _).skip _) (by rw [rightR_no2 (abs_get hx) (by omega) (abs_get hy) (fun hk => by obtain ⟨h1, h2, h3⟩ := hk; exact h1 (by assumption))]) (.inl rfl)
              · try simp only [decide_eq_true_eq, decide_eq_false_iff_not, Bool.not_eq_true', Bool.not_eq_false'] at h
                refine EL_yes (j := 5) (d := 57) (b := false) rfl rfl rfl ?_
                refine EL_s rfl rfl rfl (os_load_agg (cs := rcells y) rfl agg55 (cells_own own_head rfl)) ?_
                refine EL_yes (j := 5) (d := 57) (b := false) rfl rfl rfl ?_
                refine EL_s rfl rfl rfl (os_load_agg (cs := rcells x) rfl agg55 (cells_own (own_tail own_head) rfl)) ?_
                refine EL_yes (j := 5) (d := 57) (b := false) rfl rfl rfl ?_
                refine EL_s rfl rfl rfl (os_call (vs := [_, _]) body20 rfl (r_ahead hyo hxo)) ?_
                refine EL_yes (j := 5) (d := 57) (b := false) rfl rfl rfl ?_
                refine EL_s rfl rfl rfl (os_not rfl) ?_
                refine EL_s rfl rfl rfl (os_pick_f rfl rfl) ?_
                refine EL_nil ?_
                refine EQ_then (EQ_wp ?_)
                refine EW_cond rfl (fun h => ?_) (fun h => ?_)
                · try simp only [decide_eq_true_eq, decide_eq_false_iff_not, Bool.not_eq_true', Bool.not_eq_false'] at h
                  have ha := h
                  refine EW_seq ?_
                  -- region 12  ref.go:47
                  refine EW_region ?_
                  refine EL_s rfl rfl rfl (os_assign rfl) ?_
                  refine EL_nil ?_
                  refine EQ_then (EQ_wp ?_)
                  refine EW_ret ?_
                  refine EQ_then_ret (EQ_block_ret (EQ_then_ret (EQ_then_ret (EQ_block_ret (EQ_block_ret (EQ_then_ret (EQ_then_ret (EQ_block_ret (EQ_then_ret (?_))))))))))
                  exact pc_ret1 Try.results8 (rv_tmp rfl) (.refl _) ((((Incl.refl _).skip _).skip _).skip _) (by rw [rightR_no2 (abs_get hx) (by omega) (abs_get hy) (fun hk => by obtain ⟨h1, h2, h3⟩ := hk; rw [ha] at h2; cases h2)]) (.inl rfl)
                · try simp only [decide_eq_true_eq, decide_eq_false_iff_not, Bool.not_eq_true', Bool.not_eq_false'] at h
                  have ha := h
                  refine EW_skip ?_
                  refine EQ_then (EQ_wp ?_)
                  refine EW_seq ?_
                  -- region 13  ref.go:49
                  refine EW_region ?_
                  refine EL_s rfl rfl rfl (os_field rfl fl55_1) ?_
                  refine EL_s rfl rfl rfl (os_load_one rfl one3 (cells_own (own_tail own_head) rfl)) ?_
                  refine EL_s rfl rfl rfl (os_gtr rfl rfl) ?_
                  refine EL_s rfl rfl rfl (os_move rfl) ?_
                  refine EL_split (t := 66) rfl (fun h => ?_) (fun h => ?_)
                  · try simp only [decide_eq_true_eq, decide_eq_false_iff_not, Bool.not_eq_true', Bool.not_eq_false'] at h
                    refine EL_yes (j := 3) (d := 66) (b := true) rfl rfl rfl ?_
                    refine EL_s rfl rfl rfl (os_field rfl fl55_1) ?_
                    refine EL_yes (j := 3) (d := 66) (b := true) rfl rfl rfl ?_
                    refine EL_s rfl rfl rfl (os_load_one rfl one3 (cells_own own_head rfl)) ?_
                    refine EL_yes (j := 3) (d := 66) (b := true) rfl rfl rfl ?_
                    refine EL_s rfl rfl rfl (os_field rfl fl55_1) ?_
                    refine EL_yes (j := 3) (d := 66) (b := true) rfl rfl rfl ?_
                    refine EL_s rfl rfl rfl (os_load_one rfl one3 (cells_own (own_tail own_head) rfl)) ?_
                    refine EL_yes (j := 3) (d := 66) (b := true) rfl rfl rfl ?_
                    refine EL_s rfl rfl rfl (os_eql rfl rfl) ?_
                    refine EL_s rfl rfl rfl (os_pick_t rfl rfl) ?_
                    refine EL_s rfl rfl rfl (os_move rfl) ?_
                    refine EL_split (t := 73) rfl (fun h => ?_) (fun h => ?_)
                    · try simp only [decide_eq_true_eq, decide_eq_false_iff_not, Bool.not_eq_true', Bool.not_eq_false'] at h
                      refine EL_yes (j := 10) (d := 73) (b := true) rfl rfl rfl ?_
                      refine EL_s rfl rfl rfl (os_field rfl fl55_3) ?_
                      refine EL_yes (j := 10) (d := 73) (b := true) rfl rfl rfl ?_
                      refine EL_s rfl rfl rfl (os_load_one rfl one49 (cells_own own_head rfl)) ?_
                      refine EL_yes (j := 10) (d := 73) (b := true) rfl rfl rfl ?_
                      refine EL_s rfl rfl rfl (os_field rfl fl55_2) ?_
                      refine EL_yes (j := 10) (d := 73) (b := true) rfl rfl rfl ?_
                      refine EL_s rfl rfl rfl (os_load_one rfl one49 (cells_own (own_tail own_head) rfl)) ?_
                      refine EL_yes (j := 10) (d := 73) (b := true) rfl rfl rfl ?_
                      refine EL_s rfl rfl rfl (os_call (vs := [_, _]) body19 rfl (ref_Cmp hyo.last.up hxo.first.up)) ?_
                      refine EL_yes (j := 10) (d := 73) (b := true) rfl rfl rfl ?_
                      refine EL_s rfl rfl rfl (os_geq rfl rfl) ?_
                      refine EL_s rfl rfl rfl (os_pick_t rfl rfl) ?_
                      refine EL_nil ?_
                      refine EQ_then (EQ_wp ?_)
                      refine EW_cond rfl (fun h => ?_) (fun h => ?_)
                      · try simp only [decide_eq_true_eq, decide_eq_false_iff_not, Bool.not_eq_true', Bool.not_eq_false'] at h
                        refine EW_seq ?_
                        -- region 14  ref.go:50
                        refine EW_region ?_
                        refine EL_s rfl rfl rfl (os_assign rfl) ?_
                        refine EL_nil ?_
                        refine EQ_then (EQ_wp ?_)
                        refine EW_ret ?_
                        refine EQ_block_ret (EQ_then_ret (EQ_then_ret (EQ_block_ret (EQ_block_ret (EQ_then_ret (EQ_then_ret (EQ_block_ret (EQ_then_ret (?_)))))))))
                        exact pc_ret1 Try.results8 (rv_tmp rfl) (.refl _) ((((Incl.refl _).skip _).skip _).skip _) (by rw [rightR_no2 (abs_get hx) (by omega) (abs_get hy) (fun hk => by obtain ⟨h1, h2, h3⟩ := hk; exact h3 ⟨by omega, by omega, by omega⟩)]) (.inl rfl)
                      · try simp only [decide_eq_true_eq, decide_eq_false_iff_not, Bool.not_eq_true', Bool.not_eq_false'] at h
                        refine EW_skip ?_
                        refine EQ_block_normal ?_
                        refine EQ_then (EQ_wp ?_)
                        -- region 9  ref.go:44
                        refine EW_region ?_
                        refine EL_s rfl rfl rfl (os_move rfl) ?_
                        refine EL_s rfl rfl rfl (os_add_in rfl rfl (IntWalk.i64_in _ (by omega))) ?_
                        refine EL_s rfl rfl rfl (os_assign rfl) ?_
                        refine EL_nil ?_
                        refine EQ_round (k + 1) ?_ ?_ ?_ ?_
                        · exact ⟨by omega, pair_snoc hk2 (abs_get hy) ⟨by omega, ha, by omega⟩⟩
                        · first | omega | (dsimp only; omega)
                        · exact ⟨rfl, rfl, rfl, rfl, trivial⟩
                        · exact fun w h => h.incl ((Incl.refl _).skip _)
                    · try simp only [decide_eq_true_eq, decide_eq_false_iff_not, Bool.not_eq_true', Bool.not_eq_false'] at h
                      refine EL_no rfl rfl rfl rfl rfl rfl ?_
                      refine EL_no rfl rfl rfl rfl rfl rfl ?_
                      refine EL_no rfl rfl rfl rfl rfl rfl ?_
                      refine EL_no rfl rfl rfl rfl rfl rfl ?_
                      refine EL_no rfl rfl rfl rfl rfl rfl ?_
                      refine EL_no rfl rfl rfl rfl rfl rfl ?_
                      refine EL_s rfl rfl rfl (os_pick_f rfl rfl) ?_
                      refine EL_nil ?_
                      refine EQ_then (EQ_wp ?_)
                      refine EW_false rfl ?_
                      refine EW_skip ?_
                      refine EQ_block_normal ?_
                      refine EQ_then (EQ_wp ?_)
                      -- region 9  ref.go:44
                      refine EW_region ?_
                      refine EL_s rfl rfl rfl (os_move rfl) ?_
                      refine EL_s rfl rfl rfl (os_add_in rfl rfl (IntWalk.i64_in _ (by omega))) ?_
                      refine EL_s rfl rfl rfl (os_assign rfl) ?_
                      refine EL_nil ?_
                      refine EQ_round (k + 1) ?_ ?_ ?_ ?_
                      · exact ⟨by omega, pair_snoc hk2 (abs_get hy) ⟨by omega, ha, by omega⟩⟩
                      · first | omega | (dsimp only; omega)
                      · exact ⟨rfl, rfl, rfl, rfl, trivial⟩
                      · exact fun w h => h.incl ((Incl.refl _).skip _)
                  · try simp only [decide_eq_true_eq, decide_eq_false_iff_not, Bool.not_eq_true', Bool.not_eq_false'] at h
                    refine EL_no rfl rfl rfl rfl rfl rfl ?_
                    refine EL_no rfl rfl rfl rfl rfl rfl ?_
                    refine EL_no rfl rfl rfl rfl rfl rfl ?_
                    refine EL_no rfl rfl rfl rfl rfl rfl ?_
                    refine EL_no rfl rfl rfl rfl rfl rfl ?_
                    refine EL_s rfl rfl rfl (os_pick_f rfl rfl) ?_
                    refine EL_s rfl rfl rfl (os_move rfl) ?_
                    refine EL_no rfl rfl rfl rfl rfl rfl ?_
                    refine EL_no rfl rfl rfl rfl rfl rfl ?_
                    refine EL_no rfl rfl rfl rfl rfl rfl ?_
                    refine EL_no rfl rfl rfl rfl rfl rfl ?_
                    refine EL_no rfl rfl rfl rfl rfl rfl ?_
                    refine EL_no rfl rfl rfl rfl rfl rfl ?_
                    refine EL_s rfl rfl rfl (os_pick_f rfl rfl) ?_
                    refine EL_nil ?_
                    refine EQ_then (EQ_wp ?_)
                    refine EW_false rfl ?_
                    refine EW_skip ?_
                    refine EQ_block_normal ?_
                    refine EQ_then (EQ_wp ?_)
                    -- region 9  ref.go:44
                    refine EW_region ?_
                    refine EL_s rfl rfl rfl (os_move rfl) ?_
                    refine EL_s rfl rfl rfl (os_add_in rfl rfl (IntWalk.i64_in _ (by omega))) ?_
                    refine EL_s rfl rfl rfl (os_assign rfl) ?_
                    refine EL_nil ?_
                    refine EQ_round (k + 1) ?_ ?_ ?_ ?_
                    · exact ⟨by omega, pair_snoc hk2 (abs_get hy) ⟨by omega, ha, by omega⟩⟩
                    · first | omega | (dsimp only; omega)
                    · exact ⟨rfl, rfl, rfl, rfl, trivial⟩
                    · exact fun w h => h.incl ((Incl.refl _).skip _)
            · try simp only [decide_eq_true_eq, decide_eq_false_iff_not, Bool.not_eq_true', Bool.not_eq_false'] at h
              refine EW_exit ?_
              refine EQ_then_exit (EQ_then_exit (EQ_block_exit (?_)))
              refine EQ_block_normal ?_
              refine EQ_then (EQ_wp ?_)
              -- region 3  ref.go:39
              refine EW_region ?_
              refine EL_s rfl rfl rfl (os_move rfl) ?_
              refine EL_s rfl rfl rfl (os_add_in rfl rfl (IntWalk.i64_in _ (by omega))) ?_
              refine EL_s rfl rfl rfl (os_assign rfl) ?_
              refine EL_nil ?_
              refine EQ_round (i + 1) ?_ ?_ ?_ ?_
              · exact ⟨by omega, hri.snoc (abs_get hx) ⟨by omega, by omega, by simp only [Vr.abs]; omega, by omega⟩ (fun k1 g1 h1 => hk2 k1 g1 (by omega))⟩
              · first | omega | (dsimp only; omega)
              · exact ⟨rfl, rfl, trivial⟩
              · exact fun w h => h.incl ((((Incl.refl L0).cons _).skip _))
  · try simp only [decide_eq_true_eq, decide_eq_false_iff_not, Bool.not_eq_true', Bool.not_eq_false'] at h
    refine EW_exit ?_
    refine EQ_then_exit (EQ_then_exit (EQ_block_exit (?_)))
    refine EQ_then (EQ_wp ?_)
    refine EW_seq ?_
    -- region 15  ref.go:54
    refine EW_region ?_
    refine EL_s rfl rfl rfl (os_assign rfl) ?_
    refine EL_nil ?_
    refine EQ_then (EQ_wp ?_)
    refine EW_ret ?_
    exact pc_ret1 Try.results8 (rv_tmp rfl) (.refl _) ((Incl.refl _).skip _) (by rw [(rightR_iff _).2 (by rw [show r.abs.fs.length = i from by simp [Vr.abs]; omega]; exact hri)]) (.inl rfl)


end Go.Proofs.Ytodkbhbbdnjlcaa
