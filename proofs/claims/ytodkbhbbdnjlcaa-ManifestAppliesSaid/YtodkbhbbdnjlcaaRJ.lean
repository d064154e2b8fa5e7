/- Proved here: the part RJ of the proof that the law of this seat returns true for every input; no condition. -/
import Derived.Test.YtodkbhbbdnjlcaaJ
set_option maxRecDepth 20000
set_option linter.unusedVariables false
set_option linter.unusedSimpArgs false
namespace Go.Proofs.Ytodkbhbbdnjlcaa
open Go Go.Gl


def dropsR : List Fl → Bool → List Int → List Fl × Bool
  | l, b, [] => (l, b)
  | l, b, d :: ds => if idxF (isNum d) l < 0 then dropsR l true ds else dropsR (l.take (idxF (isNum d) l).toNat ++ l.drop ((idxF (isNum d) l).toNat + 1)) b ds
/-- Where the new one is put: behind the last that is not behind it. -/
def posR (f : Fl) (l : List Fl) : Nat → Nat
  | 0 => 0
  | k + 1 => match l[k]? with | some g => if aheadF f g then posR f l k else k + 1 | none => k + 1
def insR (f : Fl) (l : List Fl) : List Fl := l.take (posR f l l.length) ++ (f :: l.drop (posR f l l.length))
def addsR : List Fl → Bool → Int → List Fl → List Fl × Bool × Int
  | l, b, nx, [] => (l, b, nx)
  | l, b, nx, f :: fs => addsR (insR f l) (b || l.any (isNum f.num)) (nextM nx f.num) fs
inductive ApplyR (v : V) (e : E) : V → Int → Prop
  | form : rightR v = false → ApplyR v e V0 3
  | none {l} : rightR v = true → dropsR (baseV v e).fs false e.drop = (l, true) → ApplyR v e V0 6
  | there {l l2 nx} : rightR v = true → dropsR (baseV v e).fs false e.drop = (l, false) → addsR l false (baseV v e).nx e.add = (l2, true, nx) → ApplyR v e V0 7
  | bad {l l2 nx} : rightR v = true → dropsR (baseV v e).fs false e.drop = (l, false) → addsR l false (baseV v e).nx e.add = (l2, false, nx) → rightR ⟨l2, nx, e.sq⟩ = false → ApplyR v e V0 3
  | old {l l2 nx} : rightR v = true → dropsR (baseV v e).fs false e.drop = (l, false) → addsR l false (baseV v e).nx e.add = (l2, false, nx) → rightR ⟨l2, nx, e.sq⟩ = true → e.sq < (baseV v e).sq → ApplyR v e V0 13
  | ok {l l2 nx} : rightR v = true → dropsR (baseV v e).fs false e.drop = (l, false) → addsR l false (baseV v e).nx e.add = (l2, false, nx) → rightR ⟨l2, nx, e.sq⟩ = true → ¬ e.sq < (baseV v e).sq → ApplyR v e ⟨l2, nx, e.sq⟩ 0
theorem dropsR_none {l : List Fl} {b : Bool} {ds : List Int} {k : Nat} {z : Int} (hx : ds[k]? = some z) (hi : idxF (isNum z) l < 0) : dropsR l b (ds.drop k) = dropsR l true (ds.drop (k + 1)) := by
  rw [drop_of_get hx, dropsR, if_pos hi]
theorem dropsR_some {l : List Fl} {b : Bool} {ds : List Int} {k i : Nat} {z : Int} (hx : ds[k]? = some z) (hi : idxF (isNum z) l = (i : Int)) : dropsR l b (ds.drop k) = dropsR (l.take i ++ l.drop (i + 1)) b (ds.drop (k + 1)) := by
  rw [drop_of_get hx, dropsR, hi, if_neg (by omega)]; simp
theorem addsR_step {l : List Fl} {b : Bool} {nx : Int} {fs : List Fl} {k : Nat} {f : Fl} (hx : fs[k]? = some f) : addsR l b nx (fs.drop k) = addsR (insR f l) (b || l.any (isNum f.num)) (nextM nx f.num) (fs.drop (k + 1)) := by
  rw [drop_of_get hx, addsR]
theorem posR_step {f g : Fl} {l : List Fl} {k : Nat} (hg : l[k]? = some g) (h : aheadF f g = true) : posR f l (k + 1) = posR f l k := by simp [posR, hg, h]
theorem posR_stop {f g : Fl} {l : List Fl} {k : Nat} (hg : l[k]? = some g) (h : aheadF f g = false) : posR f l (k + 1) = k + 1 := by simp [posR, hg, h]
theorem any_snoc {l : List Fl} {k : Nat} {g : Fl} (hg : l[k]? = some g) (p : Fl → Bool) : (l.take (k + 1)).any p = ((l.take k).any p || p g) := by
  rw [List.take_add_one, hg]; simp
theorem FOwn.app {cells : PF → List Value} {T : TypeId} {I : Gh} {a : Option Addr} {n c : Nat} {S : Seg} {ps : List PF} {xs : List (List Value)} (h : OwnRow a n c S T 6 xs) (he : xs = ps.map cells) (hp : ∀ p ∈ ps, p.Ok I) (hf : ps.length ≤ 1000) : FOwn cells T I a n c S ps := ⟨he ▸ h, hp, hf⟩
theorem ok_ins {I : Gh} {qs : List PF} {x : PF} {j : Nat} (h : ∀ p ∈ qs, p.Ok I) (hx : x.Ok I) : ∀ p ∈ qs.take j ++ (x :: qs.drop j), p.Ok I := by
  intro p hp
  rcases List.mem_append.1 hp with hp | hp
  · exact h p (List.mem_of_mem_take hp)
  · rcases List.mem_cons.1 hp with rfl | hp
    · exact hx
    · exact h p (List.mem_of_mem_drop hp)
theorem ext_map {cells : PF → List Value} (ps : List PF) (l : Nat) {m : Nat} (hm : ps.length = m) : (ps.map cells).extract l m = (ps.drop l).map cells := by
  rw [extract_end _ _ (by rw [List.length_map]; exact hm), List.map_drop]


end Go.Proofs.Ytodkbhbbdnjlcaa
