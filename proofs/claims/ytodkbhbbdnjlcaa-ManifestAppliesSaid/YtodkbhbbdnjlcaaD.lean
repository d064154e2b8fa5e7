/- Proved here: the part D of the proof that the law of this seat returns true for every input; no condition. -/
import Derived.Test.YtodkbhbbdnjlcaaGl9
set_option maxRecDepth 20000
set_option linter.unusedVariables false
set_option linter.unusedSimpArgs false
namespace Go.Proofs.Ytodkbhbbdnjlcaa
open Go Go.Gl


def cmpI (x y : Int) : Int := if x < y then -1 else if y < x then 1 else 0

/-- A slice's head. -/
structure Hd where
  a : Option Addr
  n : Nat
  c : Nat
def Hd.v (h : Hd) : Value := .slice h.a h.n h.c
/-- A file; with its slices. -/
structure Fl where
  num : Int
  level : Int
  count : Int
  size : Int
  first : List UInt8
  last : List UInt8
  deriving DecidableEq
structure PF where
  f : Fl
  h1 : Hd
  h2 : Hd
def pcells (p : PF) : List Value := [p.h1.v, p.h2.v, .int .i64 p.f.count, .int .i64 p.f.size, .int .u64 p.f.num, .int .i64 p.f.level]
def rcells (p : PF) : List Value := [.int .u64 p.f.num, .int .i64 p.f.level, p.h1.v, p.h2.v, .int .i64 p.f.count, .int .i64 p.f.size]
structure PF.Ok (I : Gh) (p : PF) : Prop where
  len1 : p.f.first.length ≤ 140737488351232
  len2 : p.f.last.length ≤ 140737488351232
  first : Bytes I [] p.h1.a p.h1.n p.h1.c p.f.first
  last : Bytes I [] p.h2.a p.h2.n p.h2.c p.f.last
  num0 : 0 ≤ p.f.num
  num1 : p.f.num ≤ 18446744073709551615
theorem PF.Ok.mono {I J : Gh} {p : PF} (h : p.Ok I) (hI : I.le J) : p.Ok J := ⟨h.len1, h.len2, h.first.mono hI (.refl _), h.last.mono hI (.refl _), h.num0, h.num1⟩

def cmpB (a b : List UInt8) : Int := Lib.compareBytes a b
/-- The order of the program. -/
def cmpF (a b : Fl) : Int :=
  if a.level ≠ b.level then cmpI a.level b.level else if a.level = 0 then cmpI b.num a.num else
    if cmpB a.first b.first ≠ 0 then cmpB a.first b.first else cmpI a.num b.num
def touchF (a b : Fl) : Bool := decide (0 < b.level) && (decide (a.level = b.level) && decide (0 ≤ cmpB a.last b.first))
/-- The order of the document. -/
def aheadF (a b : Fl) : Bool :=
  if a.level ≠ b.level then decide (a.level < b.level) else if a.level = 0 then decide (b.num < a.num) else decide (cmpB a.first b.first < 0)

theorem cmpB_drop : ∀ (k : Nat) (l m : List UInt8), l.take k = m.take k → k ≤ l.length → k ≤ m.length → cmpB l m = cmpB (l.drop k) (m.drop k)
  | 0, _, _, _, _, _ => rfl
  | k + 1, [], _, _, h, _ => by simp at h
  | k + 1, _ :: _, [], _, _, h => by simp at h
  | k + 1, x :: l, y :: m, h, h1, h2 => by
    simp only [List.take_succ_cons, List.cons.injEq] at h
    obtain ⟨rfl, h⟩ := h
    have := cmpB_drop k l m h (by simpa using h1) (by simpa using h2)
    simp only [List.drop_succ_cons]
    rw [← this]
    simp [cmpB, Lib.compareBytes]
theorem drop_of_get {α : Type} {l : List α} {k : Nat} {x : α} (h : l[k]? = some x) : l.drop k = x :: l.drop (k + 1) := by
  obtain ⟨hk, hx⟩ := List.getElem?_eq_some_iff.1 h
  rw [List.drop_eq_getElem_cons hk, hx]
theorem cmpB_at {k : Nat} {l m : List UInt8} (h : l.take k = m.take k) {x y : UInt8} (hx : l[k]? = some x) (hy : m[k]? = some y) :
    cmpB l m = if (x.toNat : Int) < y.toNat then -1 else if (y.toNat : Int) < x.toNat then 1 else cmpB (l.drop (k + 1)) (m.drop (k + 1)) := by
  have h1 := (List.getElem?_eq_some_iff.1 hx).1
  have h2 := (List.getElem?_eq_some_iff.1 hy).1
  rw [cmpB_drop k l m h (by omega) (by omega), drop_of_get hx, drop_of_get hy]
  simp only [cmpB, Lib.compareBytes, UInt8.lt_iff_toNat_lt]
  congr 1
  · simp
  · congr 1
    simp
theorem cmpB_end {k : Nat} {l m : List UInt8} (h : l.take k = m.take k) (h1 : k ≤ l.length) (h2 : k ≤ m.length) (hk : k = l.length ∨ k = m.length) :
    cmpB l m = if (l.length : Int) < m.length then -1 else if (m.length : Int) < l.length then 1 else 0 := by
  rw [cmpB_drop k l m h h1 h2]
  rcases hk with hk | hk
  · rw [List.drop_eq_nil_of_le (by omega : l.length ≤ k)]
    cases hm : m.drop k with
    | nil =>
      have := congrArg List.length hm
      simp at this
      rw [if_neg (by omega), if_neg (by omega)]; simp [cmpB, Lib.compareBytes]
    | cons y r =>
      have := congrArg List.length hm
      simp at this
      rw [if_pos (by omega)]; simp [cmpB, Lib.compareBytes]
  · rw [List.drop_eq_nil_of_le (by omega : m.length ≤ k)]
    cases hm : l.drop k with
    | nil =>
      have := congrArg List.length hm
      simp at this
      rw [if_neg (by omega), if_neg (by omega)]; simp [cmpB, Lib.compareBytes]
    | cons y r =>
      have := congrArg List.length hm
      simp at this
      rw [if_neg (by omega), if_pos (by omega)]; simp [cmpB, Lib.compareBytes]
theorem take_succ_of {α : Type} {l m : List α} {k : Nat} {x : α} (h : l.take k = m.take k) (hx : l[k]? = some x) (hy : m[k]? = some x) : l.take (k + 1) = m.take (k + 1) := by
  rw [List.take_add_one, List.take_add_one, h, hx, hy]
theorem get_some {α : Type} {l : List α} {k : Nat} (h : k < l.length) : ∃ x, l[k]? = some x := ⟨l[k], by simp [h]⟩
theorem u8_of {x y : UInt8} (h : (x.toNat : Int) = y.toNat) : x = y := UInt8.toNat_inj.1 (by omega)
theorem u8_eq {x y : UInt8} (h1 : ¬ (x.toNat : Int) < y.toNat) (h2 : ¬ (y.toNat : Int) < x.toNat) : x = y := UInt8.toNat_inj.1 (by omega)


end Go.Proofs.Ytodkbhbbdnjlcaa
