/- Proved here: the part SQ of the proof that the law of this seat returns true for every input; no condition. -/
import Derived.Test.YtodkbhbbdnjlcaaSP
set_option maxRecDepth 20000
set_option linter.unusedVariables false
set_option linter.unusedSimpArgs false
namespace Go.Proofs.Ytodkbhbbdnjlcaa
open Go Go.Gl


theorem get_at {α : Type} {l A R : List α} {x : α} {i : Nat} (h : l = A ++ x :: R) (hi : i = A.length) : l[i]? = some x := by subst h; subst hi; simp
theorem get_at2 {α : Type} {l A B C : List α} {x y : α} {j : Nat} (h : l = A ++ x :: (B ++ y :: C)) (hj : j = A.length + 1 + B.length) : l[j]? = some y := by
  subst h; subst hj
  rw [show A ++ x :: (B ++ y :: C) = (A ++ x :: B) ++ y :: C from by simp]
  exact get_at rfl (by simp; omega)
theorem set_at {α : Type} {l A R : List α} {x y : α} {i : Nat} (h : l = A ++ x :: R) (hi : i = A.length) : l.set i y = A ++ y :: R := by subst h; subst hi; simp
theorem swap_at {α : Type} {l A B C : List α} {x y : α} {i j : Nat} (h : l = A ++ x :: (B ++ y :: C)) (hi : i = A.length) (hj : j = A.length + 1 + B.length) : (l.set i y).set j x = A ++ y :: (B ++ x :: C) := by
  rw [set_at h hi, show A ++ y :: (B ++ y :: C) = (A ++ y :: B) ++ y :: C from by simp, set_at rfl (by simp; omega)]
  simp
theorem swap_at' {α : Type} {l A B C : List α} {x y : α} {i j : Nat} (h : l = A ++ x :: (B ++ y :: C)) (hi : i = A.length) (hj : j = A.length + 1 + B.length) : (l.set j x).set i y = A ++ y :: (B ++ x :: C) := by
  rw [← swap_at h hi hj, List.set_comm]
  omega
theorem cons_of {α : Type} {l : List α} (h : 0 < l.length) : ∃ x r, l = x :: r := by cases l with | nil => simp at h | cons x r => exact ⟨x, r, rfl⟩
theorem snoc_of {α : Type} {l : List α} (h : 0 < l.length) : ∃ x r, l = r ++ [x] := ⟨l.getLast (by intro e; subst e; simp at h), l.dropLast, (List.dropLast_concat_getLast _).symm⟩
theorem split_at {α : Type} {l : List α} {k : Nat} (h : k ≤ l.length) : ∃ A B, l = A ++ B ∧ A.length = k := ⟨l.take k, l.drop k, (List.take_append_drop k l).symm, by simp; omega⟩
theorem FOwn.swap {cells : PF → List Value} {T : TypeId} {I : Gh} {a : Option Addr} {n c : Nat} {S S' : Seg} {ps qs : List PF} {x y : PF} {i j : Nat} (h : FOwn cells T I a n c S ps) (ho : OwnRow a n c S' T 6 (((ps.map cells).set i (cells y)).set j (cells x)))
    (hx : x ∈ ps) (hy : y ∈ ps) (he : (ps.set i y).set j x = qs) : FOwn cells T I a n c S' qs := by
  subst he
  refine ⟨by rw [List.map_set, List.map_set]; exact ho, fun p hp => ?_, by rw [List.length_set, List.length_set]; exact h.few⟩
  rcases List.mem_or_eq_of_mem_set hp with hp | rfl
  · rcases List.mem_or_eq_of_mem_set hp with hp | rfl
    · exact h.ok p hp
    · exact h.ok _ hy
  · exact h.ok _ hx
theorem FOwn.to {cells : PF → List Value} {T : TypeId} {I : Gh} {a : Option Addr} {n c : Nat} {S : Seg} {ps qs : List PF} (h : FOwn cells T I a n c S ps) (he : ps = qs) : FOwn cells T I a n c S qs := he ▸ h


end Go.Proofs.Ytodkbhbbdnjlcaa
