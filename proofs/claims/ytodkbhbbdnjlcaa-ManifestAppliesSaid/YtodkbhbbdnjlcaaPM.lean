/- Proved here: the part PM of the proof that the law of this seat returns true for every input; no condition. -/
import Derived.Test.YtodkbhbbdnjlcaaPL
set_option maxRecDepth 20000
set_option linter.unusedVariables false
set_option linter.unusedSimpArgs false
namespace Go.Proofs.Ytodkbhbbdnjlcaa
open Go Go.Gl


theorem dropsR_true : ∀ (ds : List Int) (l : List Fl), (dropsR l true ds).2 = true
  | [], _ => rfl
  | d :: ds, l => by rw [dropsR]; split <;> exact dropsR_true ds _
theorem drops_some : ∀ (ds : List Int) (l l' : List Fl) (b : Bool), dropsM l ds = some l' → dropsR l b ds = (l', b)
  | [], l, l', b, h => by simp only [dropsM, Option.some.injEq] at h; rw [dropsR, h]
  | d :: ds, l, l', b, h => by
    rw [dropsM] at h
    rw [dropsR]
    split at h
    · cases h
    · rename_i hi
      rw [if_neg hi]
      exact drops_some ds _ _ b h
theorem drops_no : ∀ (ds : List Int) (l : List Fl) (b : Bool), dropsM l ds = none → (dropsR l b ds).2 = true
  | [], l, b, h => by simp [dropsM] at h
  | d :: ds, l, b, h => by
    rw [dropsM] at h
    rw [dropsR]
    split at h
    · rename_i hi
      rw [if_pos hi]; exact dropsR_true ds _
    · rename_i hi
      rw [if_neg hi]; exact drops_no ds _ b h
theorem idx_any (p : Fl → Bool) (l : List Fl) : 0 ≤ idxF p l ↔ l.any p = true := by
  unfold idxF
  split
  · rename_i i hi
    obtain ⟨h1, h2, _⟩ := List.findIdx?_eq_some_iff_getElem.1 hi
    constructor
    · intro _; exact List.any_eq_true.2 ⟨_, List.getElem_mem h1, h2⟩
    · intro _; omega
  · rename_i hi
    rw [List.findIdx?_eq_none_iff] at hi
    constructor
    · intro h; omega
    · intro h
      obtain ⟨x, hx, hp⟩ := List.any_eq_true.1 h
      rw [hi x hx] at hp; cases hp
theorem any_perm {l l' : List Fl} (h : l.Perm l') (p : Fl → Bool) : l.any p = l'.any p := by
  rw [Bool.eq_iff_iff, List.any_eq_true, List.any_eq_true]
  exact ⟨fun ⟨x, hx, hp⟩ => ⟨x, h.mem_iff.1 hx, hp⟩, fun ⟨x, hx, hp⟩ => ⟨x, h.mem_iff.2 hx, hp⟩⟩
theorem insR_perm (f : Fl) (l : List Fl) : (insR f l).Perm (l ++ [f]) := by
  unfold insR
  refine (List.perm_middle).trans ?_
  rw [List.take_append_drop]
  exact (List.perm_append_comm (l₁ := [f]) (l₂ := l))
theorem addsR_true : ∀ (fs l : List Fl) (nx : Int), (addsR l true nx fs).2.1 = true
  | [], _, _ => rfl
  | f :: fs, l, nx => by rw [addsR, Bool.true_or]; exact addsR_true fs _ _
theorem adds_some : ∀ (fs l l' l2 : List Fl) (nx nx2 : Int) (b : Bool), l'.Perm l → addsM l nx fs = some (l2, nx2) → ∃ r, addsR l' b nx fs = (r, b, nx2) ∧ r.Perm l2
  | [], l, l', l2, nx, nx2, b, hp, h => by
    simp only [addsM, Option.some.injEq, Prod.mk.injEq] at h
    obtain ⟨rfl, rfl⟩ := h
    exact ⟨l', rfl, hp⟩
  | f :: fs, l, l', l2, nx, nx2, b, hp, h => by
    rw [addsM] at h
    split at h
    · cases h
    · rename_i hi
      rw [idx_any] at hi
      rw [addsR, any_perm hp, Bool.eq_false_iff.2 hi, Bool.or_false]
      exact adds_some fs _ _ _ _ _ b ((insR_perm f l').trans (hp.append_right [f])) h
theorem adds_no : ∀ (fs l l' : List Fl) (nx : Int) (b : Bool), l'.Perm l → addsM l nx fs = none → (addsR l' b nx fs).2.1 = true
  | [], l, l', nx, b, hp, h => by simp [addsM] at h
  | f :: fs, l, l', nx, b, hp, h => by
    rw [addsM] at h
    split at h
    · rename_i hi
      rw [idx_any] at hi
      rw [addsR, any_perm hp, hi, Bool.or_true]
      exact addsR_true fs _ _
    · rename_i hi
      rw [addsR]
      exact adds_no fs _ _ _ _ ((insR_perm f l').trans (hp.append_right [f])) h
def Cm (x y : Fl) : Prop := A x y ∨ A y x
theorem posR_le (f : Fl) (l : List Fl) : ∀ k, posR f l k ≤ k
  | 0 => Nat.le_refl _
  | k + 1 => by
    rw [posR]
    split
    · split
      · exact Nat.le_succ_of_le (posR_le f l k)
      · exact Nat.le_refl _
    · exact Nat.le_refl _
theorem posR_spec (f : Fl) (l : List Fl) : ∀ k, k ≤ l.length → (∀ i g, posR f l k ≤ i → i < k → l[i]? = some g → A f g) ∧ (∀ g, 0 < posR f l k → l[posR f l k - 1]? = some g → ¬ A f g)
  | 0, _ => ⟨fun i g h1 h2 => absurd h2 (Nat.not_lt_zero _), fun g h => absurd h (Nat.lt_irrefl 0)⟩
  | k + 1, hk => by
    obtain ⟨m, hm⟩ := get_some (l := l) (k := k) (by omega)
    by_cases ha : aheadF f m = true
    · rw [posR_step hm ha]
      obtain ⟨h1, h2⟩ := posR_spec f l k (by omega)
      refine ⟨fun i g hi hk hg => ?_, h2⟩
      by_cases e : i = k
      · subst e; rw [hm] at hg; cases hg; exact ha
      · exact h1 i g hi (by omega) hg
    · rw [posR_stop hm (Bool.eq_false_iff.2 ha)]
      refine ⟨fun i g h1 h2 => absurd h2 (by omega), fun g _ hg => ?_⟩
      rw [Nat.add_sub_cancel, hm] at hg
      cases hg; exact ha
theorem insR_sorted {f : Fl} {l : List Fl} (h : l.Pairwise A) (hc : ∀ g ∈ l, Cm g f) : (insR f l).Pairwise A := by
  obtain ⟨h1, h2⟩ := posR_spec f l l.length (Nat.le_refl _)
  have hle := posR_le f l l.length
  unfold insR
  generalize posR f l l.length = p at h1 h2 hle ⊢
  have hs := h
  rw [← List.take_append_drop p l, List.pairwise_append] at hs
  obtain ⟨a, b, c⟩ := hs
  have hd : ∀ y ∈ l.drop p, A f y := fun y hy => by
    obtain ⟨i, hi, he⟩ := List.mem_iff_getElem.1 hy
    have hi2 : p + i < l.length := by rw [List.length_drop] at hi; omega
    exact h1 (p + i) y (by omega) hi2 (by rw [List.getElem?_eq_getElem hi2, ← he]; simp)
  have ht : ∀ x ∈ l.take p, A x f := fun x hx => by
    obtain ⟨i, hi, he⟩ := List.mem_iff_getElem.1 hx
    rw [List.length_take] at hi
    have hp0 : p - 1 < l.length := by omega
    have hl : l[p - 1]? = some l[p - 1] := List.getElem?_eq_getElem hp0
    have h3 : A l[p - 1] f := (hc _ (List.getElem_mem hp0)).resolve_right (h2 _ (by omega) hl)
    have he2 : l[i] = x := by rw [← he]; simp
    by_cases e : i = p - 1
    · subst e; rw [← he2]; exact h3
    · rw [← he2]
      exact A_trans (List.pairwise_iff_getElem.1 h i (p - 1) (by omega) hp0 (by omega)) h3
  refine List.pairwise_append.2 ⟨a, List.pairwise_cons.2 ⟨hd, b⟩, fun x hx y hy => ?_⟩
  rcases List.mem_cons.1 hy with rfl | hy
  · exact ht x hx
  · exact c x hx y hy
theorem Cm.symm {x y : Fl} (h : Cm x y) : Cm y x := Or.symm h
theorem adds_sorted : ∀ (fs l : List Fl) (nx : Int) (b : Bool), l.Pairwise A → (l ++ fs).Pairwise Cm → (addsR l b nx fs).1.Pairwise A
  | [], l, nx, b, h, _ => h
  | f :: fs, l, nx, b, h, hc => by
    rw [addsR]
    refine adds_sorted fs _ _ _ (insR_sorted h fun g hg => ?_) ?_
    · exact (List.pairwise_append.1 hc).2.2 g hg f (List.mem_cons_self)
    · refine ((List.Perm.append_right fs (insR_perm f l)).pairwise_iff (fun h => Cm.symm h)).2 ?_
      rw [List.append_assoc]; exact hc
theorem addsR_perm : ∀ (fs l : List Fl) (nx : Int) (b : Bool), (addsR l b nx fs).1.Perm (l ++ fs)
  | [], l, nx, b => by rw [addsR]; simp
  | f :: fs, l, nx, b => by
    rw [addsR]
    refine (addsR_perm fs _ _ _).trans ?_
    have := List.Perm.append_right fs (insR_perm f l)
    rwa [List.append_assoc] at this
theorem drops_A : ∀ (ds : List Int) (l l' : List Fl), l.Pairwise A → dropsM l ds = some l' → l'.Pairwise A
  | [], l, l', h, e => by simp only [dropsM, Option.some.injEq] at e; exact e ▸ h
  | d :: ds, l, l', h, e => by
    rw [dropsM] at e
    split at e
    · cases e
    · refine drops_A ds _ _ ?_ e
      refine List.Pairwise.sublist ?_ h
      rw [← List.take_append_drop (idxF (isNum d) l).toNat l]
      conv => lhs; rw [List.take_append_drop]
      exact List.Sublist.append_left (by rw [← List.drop_drop]; exact List.drop_sublist 1 _) _
theorem base_A {v : V} {e : E} (h : rightR v = true) : (baseV v e).fs.Pairwise A := by
  unfold baseV
  split
  · exact List.Pairwise.nil
  · exact right_A h
/-- The two answers are one. -/
theorem same_list {v : V} {e : E} {l l2 q r : List Fl} {nx : Int} (hR : rightR v = true) (hd : dropsM (baseV v e).fs e.drop = some l) (hr : addsR l false (baseV v e).nx e.add = (r, false, nx)) (hq : q.Perm l2) (hr2 : r.Perm l2) (hs : q.Pairwise leF)
    (h : rightM ⟨q, nx, e.sq⟩ = true ∨ rightR ⟨r, nx, e.sq⟩ = true) : q = r := by
  have hp : q.Perm r := hq.trans hr2.symm
  refine sorted_unique hp hs ?_
  rcases h with h | h
  · rw [right_eq] at h
    have h1 : q.Pairwise Cm := (right_A h).imp fun h => .inl h
    have h2 : (addsR l false (baseV v e).nx e.add).1.Perm (l ++ e.add) := addsR_perm _ _ _ _
    rw [hr] at h2
    have h3 : (l ++ e.add).Pairwise Cm := ((hp.trans h2).pairwise_iff (fun h => Cm.symm h)).1 h1
    have h4 := adds_sorted e.add l (baseV v e).nx false (drops_A _ _ _ (base_A hR) hd) h3
    rw [hr] at h4
    exact h4.imp fun h => A_lt h
  · exact (right_A h).imp fun h => A_lt h
theorem apply_eq {v w w' : V} {e : E} {c c' : Int} (h1 : ApplyM v e w c) (h2 : ApplyR v e w' c') : w = w' ∧ c = c' := by
  have key : ∀ {l l2 q r nx nx'}, rightR v = true → dropsM (baseV v e).fs e.drop = some l → addsM l (baseV v e).nx e.add = some (l2, nx) → q.Perm l2 → q.Pairwise leF → ∀ {l'}, dropsR (baseV v e).fs false e.drop = (l', false) → addsR l' false (baseV v e).nx e.add = (r, false, nx') →
      nx = nx' ∧ (rightM ⟨q, nx, e.sq⟩ = true ∨ rightR ⟨r, nx, e.sq⟩ = true → q = r) := by
    intro l l2 q r nx nx' hR hd ha hp hs l' hd' ha'
    rw [drops_some _ _ _ false hd] at hd'
    cases hd'
    obtain ⟨r', hr, hr2⟩ := adds_some _ _ _ _ _ _ false (.refl _) ha
    rw [hr] at ha'
    cases ha'
    exact ⟨rfl, same_list hR hd hr hp hr2 hs⟩
  have no1 : ∀ {l}, dropsM (baseV v e).fs e.drop = none → dropsR (baseV v e).fs false e.drop = (l, false) → False := fun h1 h2 => by
    have := drops_no _ _ false h1; rw [h2] at this; cases this
  have no2 : ∀ {l l'}, dropsM (baseV v e).fs e.drop = some l → dropsR (baseV v e).fs false e.drop = (l', true) → False := fun h1 h2 => by
    have := drops_some _ _ _ false h1; rw [h2] at this; cases this
  have no3 : ∀ {l l2 nx l' l3 nx'}, dropsM (baseV v e).fs e.drop = some l → addsM l (baseV v e).nx e.add = some (l2, nx) → dropsR (baseV v e).fs false e.drop = (l', false) → addsR l' false (baseV v e).nx e.add = (l3, true, nx') → False := fun h1 h2 h3 h4 => by
    rw [drops_some _ _ _ false h1] at h3
    cases h3
    obtain ⟨r', hr, _⟩ := adds_some _ _ _ _ _ _ false (.refl _) h2
    rw [hr] at h4; cases h4
  have no4 : ∀ {l l' l3 nx'}, dropsM (baseV v e).fs e.drop = some l → addsM l (baseV v e).nx e.add = none → dropsR (baseV v e).fs false e.drop = (l', false) → addsR l' false (baseV v e).nx e.add = (l3, false, nx') → False := fun h1 h2 h3 h4 => by
    rw [drops_some _ _ _ false h1] at h3
    cases h3
    have := adds_no _ _ _ _ false (.refl _) h2
    rw [h4] at this; cases this
  have re := right_eq v
  cases h1 with
  | form h => cases h2 with
    | form => exact ⟨rfl, rfl⟩
    | _ g => rw [re] at h; rw [g] at h; cases h
  | none h hd => cases h2 with
    | form g => rw [re] at h; rw [g] at h; cases h
    | none => exact ⟨rfl, rfl⟩
    | there _ g => exact (no1 hd g).elim
    | bad _ g => exact (no1 hd g).elim
    | old _ g => exact (no1 hd g).elim
    | ok _ g => exact (no1 hd g).elim
  | there h hd ha => cases h2 with
    | form g => rw [re] at h; rw [g] at h; cases h
    | none _ g => exact (no2 hd g).elim
    | there => exact ⟨rfl, rfl⟩
    | bad _ g g2 => exact (no4 hd ha g g2).elim
    | old _ g g2 => exact (no4 hd ha g g2).elim
    | ok _ g g2 => exact (no4 hd ha g g2).elim
  | bad h hd ha hp hs hr => cases h2 with
    | form g => rw [re] at h; rw [g] at h; cases h
    | none _ g => exact (no2 hd g).elim
    | there _ g g2 => exact (no3 hd ha g g2).elim
    | bad => exact ⟨rfl, rfl⟩
    | old hR g g2 g3 => obtain ⟨rfl, h7⟩ := key hR hd ha hp hs g g2; rw [h7 (.inr g3), right_eq, g3] at hr; cases hr
    | ok hR g g2 g3 => obtain ⟨rfl, h7⟩ := key hR hd ha hp hs g g2; rw [h7 (.inr g3), right_eq, g3] at hr; cases hr
  | old h hd ha hp hs hr ho => cases h2 with
    | form g => rw [re] at h; rw [g] at h; cases h
    | none _ g => exact (no2 hd g).elim
    | there _ g g2 => exact (no3 hd ha g g2).elim
    | bad hR g g2 g3 => obtain ⟨rfl, h7⟩ := key hR hd ha hp hs g g2; rw [← h7 (.inl hr), ← right_eq, hr] at g3; cases g3
    | old => exact ⟨rfl, rfl⟩
    | ok hR g g2 g3 g4 => exact absurd ho g4
  | ok h hd ha hp hs hr ho => cases h2 with
    | form g => rw [re] at h; rw [g] at h; cases h
    | none _ g => exact (no2 hd g).elim
    | there _ g g2 => exact (no3 hd ha g g2).elim
    | bad hR g g2 g3 => obtain ⟨rfl, h7⟩ := key hR hd ha hp hs g g2; rw [← h7 (.inl hr), ← right_eq, hr] at g3; cases g3
    | old hR g g2 g3 g4 => exact absurd g4 ho
    | ok hR g g2 g3 => obtain ⟨rfl, h7⟩ := key hR hd ha hp hs g g2; rw [h7 (.inl hr)]; exact ⟨rfl, rfl⟩
theorem apply_right {v w : V} {e : E} {c : Int} (h : ApplyM v e w c) (hc : c = 0) : rightM w = true := by
  cases h with
  | ok _ _ _ _ _ h => exact h
  | _ => omega
theorem drops_len : ∀ (ds : List Int) (l l' : List Fl), dropsM l ds = some l' → l'.length ≤ l.length
  | [], l, l', e => by simp only [dropsM, Option.some.injEq] at e; exact e ▸ Nat.le_refl _
  | d :: ds, l, l', e => by
    rw [dropsM] at e
    split at e
    · cases e
    · have := drops_len ds _ _ e
      rw [List.length_append, List.length_take, List.length_drop] at this
      omega
theorem adds_len : ∀ (fs l l' : List Fl) (nx nx' : Int), addsM l nx fs = some (l', nx') → l'.length = l.length + fs.length
  | [], l, l', nx, nx', e => by simp only [addsM, Option.some.injEq, Prod.mk.injEq] at e; rw [e.1]; simp
  | f :: fs, l, l', nx, nx', e => by
    rw [addsM] at e
    split at e
    · cases e
    · have := adds_len fs _ _ _ _ e
      rw [List.length_append] at this
      simp at this ⊢; omega
theorem base_len (v : V) (e : E) : (baseV v e).fs.length ≤ v.fs.length := by
  unfold baseV
  split
  · exact Nat.zero_le _
  · exact Nat.le_refl _
theorem apply_len {v w : V} {e : E} {c : Int} (h : ApplyM v e w c) : w.fs.length ≤ v.fs.length + e.add.length := by
  cases h with
  | ok _ hd ha hp _ _ =>
    have h1 := drops_len _ _ _ hd
    have h2 := adds_len _ _ _ _ _ ha
    have h3 := hp.length_eq
    have h4 := base_len v e
    dsimp only
    omega
  | _ => exact Nat.zero_le _


end Go.Proofs.Ytodkbhbbdnjlcaa
