/- Proved here: the part J of the proof that the law of this seat returns true for every input; no condition. -/
import Derived.Test.YtodkbhbbdnjlcaaSO
set_option maxRecDepth 20000
set_option linter.unusedVariables false
set_option linter.unusedSimpArgs false
namespace Go.Proofs.Ytodkbhbbdnjlcaa
open Go Go.Gl


def V0 : V := ⟨[], 0, 0⟩
def Vr0 : Vr := ⟨⟨none, 0, 0⟩, [], 0, 0⟩
theorem Vr0_ok (cells : PF → List Value) (I : Gh) : Vr0.Ok cells I := ⟨⟨Row.empty _ _ _, fun p hp => (by cases hp), by decide⟩, by decide, by decide, by decide, by decide⟩
theorem Vr0_abs : Vr0.abs = V0 := rfl
def isNum (z : Int) : Fl → Bool := fun f => decide (f.num = z)
def dropsM : List Fl → List Int → Option (List Fl)
  | l, [] => some l
  | l, d :: ds => if idxF (isNum d) l < 0 then none else dropsM (l.take (idxF (isNum d) l).toNat ++ l.drop ((idxF (isNum d) l).toNat + 1)) ds
def nextM (nx n : Int) : Int := if IntKind.u64.wrap (n + 1) > nx then IntKind.u64.wrap (n + 1) else nx
def addsM : List Fl → Int → List Fl → Option (List Fl × Int)
  | l, nx, [] => some (l, nx)
  | l, nx, f :: fs => if 0 ≤ idxF (isNum f.num) l then none else addsM (l ++ [f]) (nextM nx f.num) fs
def baseV (v : V) (e : E) : V := if e.reset then V0 else v
def leF (x y : Fl) : Prop := cmpF x y ≤ 0
/-- What the program's Apply answers: a version and a code. -/
inductive ApplyM (v : V) (e : E) : V → Int → Prop
  | form : rightM v = false → ApplyM v e V0 3
  | none : rightM v = true → dropsM (baseV v e).fs e.drop = .none → ApplyM v e V0 6
  | there {l} : rightM v = true → dropsM (baseV v e).fs e.drop = some l → addsM l (baseV v e).nx e.add = .none → ApplyM v e V0 7
  | bad {l l2 nx q} : rightM v = true → dropsM (baseV v e).fs e.drop = some l → addsM l (baseV v e).nx e.add = some (l2, nx) → q.Perm l2 → q.Pairwise leF → rightM ⟨q, nx, e.sq⟩ = false → ApplyM v e V0 3
  | old {l l2 nx q} : rightM v = true → dropsM (baseV v e).fs e.drop = some l → addsM l (baseV v e).nx e.add = some (l2, nx) → q.Perm l2 → q.Pairwise leF → rightM ⟨q, nx, e.sq⟩ = true → e.sq < (baseV v e).sq → ApplyM v e V0 13
  | ok {l l2 nx q} : rightM v = true → dropsM (baseV v e).fs e.drop = some l → addsM l (baseV v e).nx e.add = some (l2, nx) → q.Perm l2 → q.Pairwise leF → rightM ⟨q, nx, e.sq⟩ = true → ¬ e.sq < (baseV v e).sq → ApplyM v e ⟨q, nx, e.sq⟩ 0
theorem Row.u64 {l : List Int} {k : Nat} {z : Int} (h : l[k]? = some z) : (u64s l)[k]? = some [.int .u64 z] := by simp [u64s, h]
theorem drops_step {l : List Fl} {ds : List Int} {k i : Nat} {z : Int} (hx : ds[k]? = some z) (hi : idxF (isNum z) l = (i : Int)) : dropsM l (ds.drop k) = dropsM (l.take i ++ l.drop (i + 1)) (ds.drop (k + 1)) := by
  rw [drop_of_get hx, dropsM, hi, if_neg (by omega)]; simp
theorem drops_none {l : List Fl} {ds : List Int} {k : Nat} {z : Int} (hx : ds[k]? = some z) (hi : idxF (isNum z) l < 0) : dropsM l (ds.drop k) = none := by
  rw [drop_of_get hx, dropsM, if_pos hi]
theorem adds_step {l : List Fl} {nx : Int} {fs : List Fl} {k : Nat} {f : Fl} (hx : fs[k]? = some f) (hi : ¬ 0 ≤ idxF (isNum f.num) l) : addsM l nx (fs.drop k) = addsM (l ++ [f]) (nextM nx f.num) (fs.drop (k + 1)) := by
  rw [drop_of_get hx, addsM, if_neg hi]
theorem adds_none {l : List Fl} {nx : Int} {fs : List Fl} {k : Nat} {f : Fl} (hx : fs[k]? = some f) (hi : 0 ≤ idxF (isNum f.num) l) : addsM l nx (fs.drop k) = none := by
  rw [drop_of_get hx, addsM, if_pos hi]
theorem wrap_u64 (n : Int) : 0 ≤ IntKind.u64.wrap n ∧ IntKind.u64.wrap n ≤ 18446744073709551615 := by
  rw [IntKind.wrap_u64]; omega
theorem nextM_le {nx n : Int} (h : 0 ≤ nx ∧ nx ≤ 18446744073709551615) : 0 ≤ nextM nx n ∧ nextM nx n ≤ 18446744073709551615 := by
  unfold nextM
  split
  · exact wrap_u64 _
  · exact h
theorem sorted_map {l : List PF} (h : Sorted l) : (l.map (·.f)).Pairwise leF := List.pairwise_map.2 h


end Go.Proofs.Ytodkbhbbdnjlcaa
