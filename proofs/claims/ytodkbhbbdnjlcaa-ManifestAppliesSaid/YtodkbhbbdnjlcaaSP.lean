/- Proved here: the part SP of the proof that the law of this seat returns true for every input; no condition. -/
import Derived.Test.YtodkbhbbdnjlcaaI
set_option maxRecDepth 20000
set_option linter.unusedVariables false
set_option linter.unusedSimpArgs false
namespace Go.Proofs.Ytodkbhbbdnjlcaa
open Go Go.Gl


theorem cmpB_cons (x y : UInt8) (a b : List UInt8) : cmpB (x :: a) (y :: b) = if x < y then -1 else if y < x then 1 else cmpB a b := rfl
theorem cmpB_swap : ∀ a b : List UInt8, cmpB b a = - cmpB a b
  | [], [] => rfl
  | [], _ :: _ => rfl
  | _ :: _, [] => rfl
  | x :: a, y :: b => by
    rw [cmpB_cons, cmpB_cons, cmpB_swap a b]
    have : x < y → ¬ y < x := fun h h' => by rw [UInt8.lt_iff_toNat_lt] at *; omega
    by_cases h1 : x < y
    · simp [h1, this h1]
    · by_cases h2 : y < x <;> simp [h1, h2]
theorem cmpB_zero : ∀ a b : List UInt8, cmpB a b = 0 ↔ a = b
  | [], [] => by simp [cmpB, Lib.compareBytes]
  | [], _ :: _ => by simp [cmpB, Lib.compareBytes]
  | _ :: _, [] => by simp [cmpB, Lib.compareBytes]
  | x :: a, y :: b => by
    rw [cmpB_cons]
    by_cases h1 : x < y
    · simp [h1]; intro h; subst h; rw [UInt8.lt_iff_toNat_lt] at h1; omega
    · by_cases h2 : y < x
      · simp [h1, h2]; intro h; subst h; rw [UInt8.lt_iff_toNat_lt] at h2; omega
      · have : x = y := by rw [UInt8.lt_iff_toNat_lt] at *; exact UInt8.toNat_inj.1 (by omega)
        simp [h1, h2, this, cmpB_zero a b]
theorem cmpB_trans : ∀ a b c : List UInt8, cmpB a b ≤ 0 → cmpB b c ≤ 0 → cmpB a c ≤ 0
  | [], _, [], _, _ => by simp [cmpB, Lib.compareBytes]
  | [], _, _ :: _, _, _ => by simp [cmpB, Lib.compareBytes]
  | _ :: _, [], _, h, _ => by simp [cmpB, Lib.compareBytes] at h
  | _ :: _, _ :: _, [], _, h => by simp [cmpB, Lib.compareBytes] at h
  | x :: a, y :: b, z :: c, h1, h2 => by
    rw [cmpB_cons] at *
    simp only [UInt8.lt_iff_toNat_lt] at *
    by_cases g1 : x.toNat < y.toNat
    · by_cases g2 : y.toNat < z.toNat
      · rw [if_pos (by omega)]; omega
      · by_cases g3 : z.toNat < y.toNat
        · rw [if_neg g2, if_pos g3] at h2; omega
        · rw [if_pos (by omega)]; omega
    · by_cases g4 : y.toNat < x.toNat
      · rw [if_neg g1, if_pos g4] at h1; omega
      · rw [if_neg g1, if_neg g4] at h1
        by_cases g2 : y.toNat < z.toNat
        · rw [if_pos (by omega)]; omega
        · by_cases g3 : z.toNat < y.toNat
          · rw [if_neg g2, if_pos g3] at h2; omega
          · rw [if_neg g2, if_neg g3] at h2
            rw [if_neg (by omega), if_neg (by omega)]
            exact cmpB_trans a b c h1 h2
theorem cmpB_lt_of {a b c : List UInt8} (h1 : cmpB a b ≤ 0) (h2 : cmpB b c < 0) : cmpB a c < 0 := by
  have h3 := cmpB_trans a b c h1 (by omega)
  by_cases h : cmpB a c = 0
  · rw [(cmpB_zero a c).1 h, cmpB_swap] at h1; omega
  · omega
theorem cmpB_lt_of' {a b c : List UInt8} (h1 : cmpB a b < 0) (h2 : cmpB b c ≤ 0) : cmpB a c < 0 := by
  have h3 := cmpB_trans a b c (by omega) h2
  by_cases h : cmpB a c = 0
  · rw [← (cmpB_zero a c).1 h, cmpB_swap] at h2; omega
  · omega
theorem cmpI_swap (x y : Int) : cmpI y x = - cmpI x y := by unfold cmpI; split <;> split <;> (try split) <;> omega
theorem cmpF_swap (a b : Fl) : cmpF b a = - cmpF a b := by
  unfold cmpF
  by_cases h : a.level = b.level
  · rw [if_neg (show ¬ (b.level ≠ a.level) by simpa using h.symm), if_neg (show ¬ (a.level ≠ b.level) by simpa using h)]
    by_cases h0 : a.level = 0
    · rw [if_pos (show b.level = 0 from h ▸ h0), if_pos h0, cmpI_swap]
    · rw [if_neg (show ¬ b.level = 0 from h ▸ h0), if_neg h0, cmpB_swap a.first b.first, cmpI_swap a.num b.num]
      by_cases hc : cmpB a.first b.first = 0 <;> simp [hc]
  · rw [if_pos (by simpa using fun e => h e.symm), if_pos (by simpa using h), cmpI_swap]
theorem cmpI_le (x y : Int) : cmpI x y ≤ 0 ↔ x ≤ y := by unfold cmpI; split <;> (try split) <;> omega
theorem cmpI_lt (x y : Int) : cmpI x y < 0 ↔ x < y := by unfold cmpI; split <;> (try split) <;> omega
theorem cmpF_le (a b : Fl) : cmpF a b ≤ 0 ↔ a.level < b.level ∨ (a.level = b.level ∧ ((a.level = 0 ∧ b.num ≤ a.num) ∨ (a.level ≠ 0 ∧ (cmpB a.first b.first < 0 ∨ (cmpB a.first b.first = 0 ∧ a.num ≤ b.num))))) := by
  unfold cmpF
  by_cases h : a.level = b.level
  · rw [if_neg (by simpa using h)]
    by_cases h0 : a.level = 0
    · rw [if_pos h0, cmpI_le]; constructor
      · intro g; exact .inr ⟨h, .inl ⟨h0, g⟩⟩
      · rintro (g | ⟨_, ⟨_, g⟩ | ⟨g, _⟩⟩)
        · omega
        · exact g
        · exact absurd h0 g
    · rw [if_neg h0]
      by_cases hc : cmpB a.first b.first = 0
      · simp only [hc, ne_eq, not_true, if_false, cmpI_le]
        constructor
        · intro g; exact .inr ⟨h, .inr ⟨h0, .inr ⟨trivial, g⟩⟩⟩
        · rintro (g | ⟨_, ⟨g, _⟩ | ⟨_, g | ⟨_, g⟩⟩⟩)
          · omega
          · exact absurd g h0
          · omega
          · exact g
      · simp only [hc, ne_eq, not_false_iff, if_true]
        constructor
        · intro g; exact .inr ⟨h, .inr ⟨h0, .inl (by omega)⟩⟩
        · rintro (g | ⟨_, ⟨g, _⟩ | ⟨_, g | ⟨g, _⟩⟩⟩)
          · omega
          · exact absurd g h0
          · omega
          · first | exact absurd g hc | exact g.elim
  · rw [if_pos (by simpa using h), cmpI_le]
    constructor
    · intro g; exact .inl (by omega)
    · rintro (g | ⟨g, _⟩) <;> omega
/-- Not behind. -/
def leP (x y : PF) : Prop := cmpF x.f y.f ≤ 0
theorem leP_trans {x y z : PF} (h1 : leP x y) (h2 : leP y z) : leP x z := by
  unfold leP at *
  rw [cmpF_le] at *
  rcases h1 with h1 | ⟨e1, h1⟩
  · rcases h2 with h2 | ⟨e2, _⟩ <;> left <;> omega
  · rcases h2 with h2 | ⟨e2, h2⟩
    · left; omega
    · right
      refine ⟨by omega, ?_⟩
      rcases h1 with ⟨a1, b1⟩ | ⟨a1, b1⟩
      · rcases h2 with ⟨a2, b2⟩ | ⟨a2, b2⟩
        · left; omega
        · omega
      · rcases h2 with ⟨a2, b2⟩ | ⟨a2, b2⟩
        · omega
        · right
          refine ⟨a1, ?_⟩
          rcases b1 with b1 | ⟨b1, c1⟩
          · rcases b2 with b2 | ⟨b2, c2⟩
            · left; exact cmpB_lt_of (by omega) b2
            · left; exact cmpB_lt_of' b1 (by omega)
          · rw [(cmpB_zero _ _).1 b1]
            rcases b2 with b2 | ⟨b2, c2⟩
            · left; exact b2
            · right; exact ⟨b2, by omega⟩
theorem leP_of_not {x y : PF} (h : ¬ cmpF y.f x.f < 0) : leP x y := by unfold leP; rw [cmpF_swap]; omega
theorem leP_of_lt {x y : PF} (h : cmpF x.f y.f < 0) : leP x y := by unfold leP; omega
abbrev Sorted (l : List PF) : Prop := l.Pairwise leP


end Go.Proofs.Ytodkbhbbdnjlcaa
