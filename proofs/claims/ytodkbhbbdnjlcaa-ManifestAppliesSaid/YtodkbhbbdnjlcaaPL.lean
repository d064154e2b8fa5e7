/- Proved here: the part PL of the proof that the law of this seat returns true for every input; no condition. -/
import Derived.Test.YtodkbhbbdnjlcaaRJ
set_option maxRecDepth 20000
set_option linter.unusedVariables false
set_option linter.unusedSimpArgs false
namespace Go.Proofs.Ytodkbhbbdnjlcaa
open Go Go.Gl


theorem cmpF_lt (a b : Fl) : cmpF a b < 0 ↔ a.level < b.level ∨ (a.level = b.level ∧ ((a.level = 0 ∧ b.num < a.num) ∨ (a.level ≠ 0 ∧ (cmpB a.first b.first < 0 ∨ (cmpB a.first b.first = 0 ∧ a.num < b.num))))) := by
  unfold cmpF
  by_cases h : a.level = b.level
  · rw [if_neg (by simpa using h)]
    by_cases h0 : a.level = 0
    · rw [if_pos h0, cmpI_lt]; constructor
      · intro g; exact .inr ⟨h, .inl ⟨h0, g⟩⟩
      · rintro (g | ⟨_, ⟨_, g⟩ | ⟨g, _⟩⟩)
        · omega
        · exact g
        · exact absurd h0 g
    · rw [if_neg h0]
      by_cases hc : cmpB a.first b.first = 0
      · simp only [hc, ne_eq, not_true, if_false, cmpI_lt]
        constructor
        · intro g; exact .inr ⟨h, .inr ⟨h0, .inr ⟨trivial, g⟩⟩⟩
        · rintro (g | ⟨_, ⟨g, _⟩ | ⟨_, g | ⟨_, g⟩⟩⟩)
          · omega
          · exact absurd g h0
          · omega
          · exact g
      · simp only [hc, ne_eq, not_false_iff, if_true]
        constructor
        · intro g; exact .inr ⟨h, .inr ⟨h0, .inl (by omega)⟩⟩
        · rintro (g | ⟨_, ⟨g, _⟩ | ⟨_, g | ⟨g, _⟩⟩⟩)
          · omega
          · exact absurd g h0
          · omega
          · first | exact absurd g hc | exact g.elim
  · rw [if_pos (by simpa using h), cmpI_lt]
    constructor
    · intro g; exact .inl (by omega)
    · rintro (g | ⟨g, _⟩) <;> omega
theorem touchF_no (a b : Fl) : touchF a b = false ↔ ¬ (0 < b.level ∧ a.level = b.level ∧ 0 ≤ cmpB a.last b.first) := by
  rw [← Bool.not_eq_true]; simp [touchF]
theorem aheadF_iff (a b : Fl) : aheadF a b = true ↔ a.level < b.level ∨ (a.level = b.level ∧ ((a.level = 0 ∧ b.num < a.num) ∨ (a.level ≠ 0 ∧ cmpB a.first b.first < 0))) := by
  unfold aheadF
  by_cases h : a.level = b.level
  · rw [if_neg (by simpa using h)]
    by_cases h0 : a.level = 0
    · rw [if_pos h0, decide_eq_true_eq]; constructor
      · intro g; exact .inr ⟨h, .inl ⟨h0, g⟩⟩
      · rintro (g | ⟨_, ⟨_, g⟩ | ⟨g, _⟩⟩)
        · omega
        · exact g
        · exact absurd h0 g
    · rw [if_neg h0, decide_eq_true_eq]; constructor
      · intro g; exact .inr ⟨h, .inr ⟨h0, g⟩⟩
      · rintro (g | ⟨_, ⟨g, _⟩ | ⟨_, g⟩⟩)
        · omega
        · exact absurd g h0
        · exact g
  · rw [if_pos (by simpa using h), decide_eq_true_eq]
    constructor
    · exact .inl
    · rintro (g | ⟨g, _⟩)
      · exact g
      · exact absurd g h
def T (g f : Fl) : Prop := g.level < f.level ∨ (g.level = f.level ∧ ((g.level = 0 ∧ f.num < g.num) ∨ (0 < g.level ∧ cmpB g.last f.first < 0)))
theorem T_trans {a b c : Fl} (hb : cmpB b.first b.last ≤ 0) (h1 : T a b) (h2 : T b c) : T a c := by
  unfold T at *
  rcases h1 with h1 | ⟨e1, h1⟩
  · rcases h2 with h2 | ⟨e2, _⟩ <;> left <;> omega
  · rcases h2 with h2 | ⟨e2, h2⟩
    · left; omega
    · right
      refine ⟨by omega, ?_⟩
      rcases h1 with ⟨a1, b1⟩ | ⟨a1, b1⟩
      · rcases h2 with ⟨a2, b2⟩ | ⟨a2, b2⟩
        · left; omega
        · omega
      · rcases h2 with ⟨a2, b2⟩ | ⟨a2, b2⟩
        · omega
        · right
          exact ⟨a1, cmpB_lt_of' (cmpB_lt_of' b1 hb) (by omega)⟩
theorem T_of_M {g f : Fl} (h0 : 0 ≤ g.level) (hg : cmpB g.first g.last ≤ 0) (h : cmpF g f < 0 ∧ touchF g f = false) : T g f := by
  obtain ⟨h1, h2⟩ := h
  rw [touchF_no] at h2
  rw [cmpF_lt] at h1
  rcases h1 with h1 | ⟨e, ⟨a, b⟩ | ⟨a, b⟩⟩
  · exact .inl h1
  · exact .inr ⟨e, .inl ⟨a, b⟩⟩
  · refine .inr ⟨e, .inr ⟨by omega, ?_⟩⟩
    by_cases h3 : 0 ≤ cmpB g.last f.first
    · exact absurd ⟨by omega, e, h3⟩ h2
    · omega
theorem M_of_T {g f : Fl} (hg : cmpB g.first g.last ≤ 0) (h : T g f) : cmpF g f < 0 ∧ touchF g f = false := by
  rw [touchF_no, cmpF_lt]
  rcases h with h | ⟨e, ⟨a, b⟩ | ⟨a, b⟩⟩
  · exact ⟨.inl h, by omega⟩
  · exact ⟨.inr ⟨e, .inl ⟨a, b⟩⟩, by omega⟩
  · exact ⟨.inr ⟨e, .inr ⟨by omega, .inl (cmpB_lt_of hg b)⟩⟩, by omega⟩
theorem R_of_T {g f : Fl} (hg : cmpB g.first g.last ≤ 0) (h : T g f) (hn : g.num ≠ f.num) : pairR g f := by
  refine ⟨hn, (aheadF_iff _ _).2 ?_, ?_⟩
  · rcases h with h | ⟨e, ⟨a, b⟩ | ⟨a, b⟩⟩
    · exact .inl h
    · exact .inr ⟨e, .inl ⟨a, b⟩⟩
    · exact .inr ⟨e, .inr ⟨by omega, cmpB_lt_of hg b⟩⟩
  · rcases h with h | ⟨e, ⟨a, b⟩ | ⟨a, b⟩⟩ <;> omega
theorem T_of_R {g f : Fl} (h0 : 0 ≤ g.level) (h : pairR g f) : T g f := by
  obtain ⟨_, h1, h2⟩ := h
  rw [aheadF_iff] at h1
  rcases h1 with h1 | ⟨e, ⟨a, b⟩ | ⟨a, b⟩⟩
  · exact .inl h1
  · exact .inr ⟨e, .inl ⟨a, b⟩⟩
  · refine .inr ⟨e, .inr ⟨by omega, ?_⟩⟩
    by_cases h3 : 0 ≤ cmpB g.last f.first
    · exact absurd ⟨by omega, e, h3⟩ h2
    · omega
theorem T_chain {v : V} (h : RightToM v v.fs.length) : ∀ d k g f, v.fs[k]? = some g → v.fs[k + d + 1]? = some f → T g f
  | 0, k, g, f, hg, hf => by
    have hl := (List.getElem?_eq_some_iff.1 hf).1
    have h1 := (h k g (by omega) hg).1
    exact T_of_M h1.1 h1.2.2.2 ((h (k + 0 + 1) f hl hf).2 g (by omega) (by simpa using hg))
  | d + 1, k, g, f, hg, hf => by
    have hl := (List.getElem?_eq_some_iff.1 hf).1
    obtain ⟨m, hm⟩ := get_some (l := v.fs) (k := k + d + 1) (by omega)
    have h1 := (h (k + d + 1) m (by omega) hm).1
    have h2 := T_of_M h1.1 h1.2.2.2 ((h (k + (d + 1) + 1) f hl hf).2 m (by omega) (by simpa [Nat.add_assoc] using hm))
    exact T_trans h1.2.2.2 (T_chain h d k g m hg hm) h2
theorem right_iff (v : V) : (RightToM v v.fs.length ∧ (v.fs.map (·.num)).Nodup) ↔ RightTo v v.fs.length := by
  constructor
  · rintro ⟨h, hn⟩ j f hj hf
    refine ⟨(h j f hj hf).1, fun k g hk hg => ?_⟩
    obtain ⟨d, rfl⟩ : ∃ d, j = k + d + 1 := ⟨j - k - 1, by omega⟩
    refine R_of_T (h k g (by omega) hg).1.2.2.2 (T_chain h d k g f hg hf) fun he => ?_
    have h1 := (List.getElem?_eq_some_iff.1 hg)
    have h2 := (List.getElem?_eq_some_iff.1 hf)
    obtain ⟨l1, e1⟩ := h1
    obtain ⟨l2, e2⟩ := h2
    have := (List.pairwise_iff_getElem.1 hn) k (k + d + 1) (by simpa using l1) (by simpa using l2) (by omega)
    simp [e1, e2] at this
    exact this he
  · intro h
    constructor
    · intro j f hj hf
      refine ⟨(h j f hj hf).1, fun g h0 hg => ?_⟩
      have h1 := (h (j - 1) g (by omega) hg).1
      exact M_of_T h1.2.2.2 (T_of_R h1.1 ((h j f hj hf).2 (j - 1) g (by omega) hg))
    · refine List.pairwise_iff_getElem.2 fun k j hk hj hkj => ?_
      have l1 : k < v.fs.length := by simpa using hk
      have l2 : j < v.fs.length := by simpa using hj
      have := ((h j v.fs[j] l2 (by simp)).2 k v.fs[k] hkj (by simp)).1
      simpa using this
theorem right_eq (v : V) : rightM v = rightR v := by
  rw [Bool.eq_iff_iff, rightM_iff, rightR_iff, right_iff]
/-- Ahead. -/
abbrev A (x y : Fl) : Prop := aheadF x y = true
theorem right_A {v : V} (h : rightR v = true) : v.fs.Pairwise A := by
  rw [rightR_iff] at h
  refine List.pairwise_iff_getElem.2 fun k j hk hj hkj => ?_
  exact ((h j v.fs[j] hj (by simp)).2 k v.fs[k] hkj (by simp)).2.1
theorem A_trans {a b c : Fl} (h1 : A a b) (h2 : A b c) : A a c := by
  unfold A at *
  rw [aheadF_iff] at *
  rcases h1 with h1 | ⟨e1, h1⟩
  · rcases h2 with h2 | ⟨e2, _⟩ <;> left <;> omega
  · rcases h2 with h2 | ⟨e2, h2⟩
    · left; omega
    · right
      refine ⟨by omega, ?_⟩
      rcases h1 with ⟨a1, b1⟩ | ⟨a1, b1⟩
      · rcases h2 with ⟨a2, b2⟩ | ⟨a2, b2⟩
        · left; omega
        · omega
      · rcases h2 with ⟨a2, b2⟩ | ⟨a2, b2⟩
        · omega
        · right; exact ⟨a1, cmpB_lt_of' b1 (by omega)⟩
theorem A_lt {a b : Fl} (h : A a b) : cmpF a b < 0 := by
  unfold A at h
  rw [aheadF_iff] at h
  rw [cmpF_lt]
  rcases h with h | ⟨e, ⟨a, b⟩ | ⟨a, b⟩⟩
  · exact .inl h
  · exact .inr ⟨e, .inl ⟨a, b⟩⟩
  · exact .inr ⟨e, .inr ⟨a, .inl b⟩⟩
theorem sorted_unique : ∀ {q r : List Fl}, q.Perm r → q.Pairwise leF → r.Pairwise (fun x y => cmpF x y < 0) → q = r
  | q, [], hp, _, _ => hp.eq_nil
  | [], x :: r, hp, _, _ => absurd hp.symm.eq_nil (by simp)
  | y :: q, x :: r, hp, hq, hr => by
    have e : y = x := by
      by_cases e : y = x
      · exact e
      · have h1 : x ∈ q := by
          rcases List.mem_cons.1 (hp.mem_iff.2 (List.mem_cons_self)) with h | h
          · exact absurd h.symm e
          · exact h
        have h2 : y ∈ r := by
          rcases List.mem_cons.1 (hp.mem_iff.1 (List.mem_cons_self)) with h | h
          · exact absurd h e
          · exact h
        have h3 := (List.pairwise_cons.1 hq).1 x h1
        have h4 := (List.pairwise_cons.1 hr).1 y h2
        unfold leF at h3
        rw [cmpF_swap] at h3
        omega
    subst e
    rw [sorted_unique ((List.perm_cons _).1 hp) (List.pairwise_cons.1 hq).2 (List.pairwise_cons.1 hr).2]


end Go.Proofs.Ytodkbhbbdnjlcaa
