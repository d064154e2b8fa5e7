/- Proved here: the part SM of the proof that the law of this seat returns true for every input; no condition. -/
import Derived.Test.YtodkbhbbdnjlcaaSY
set_option maxRecDepth 20000
set_option linter.unusedVariables false
set_option linter.unusedSimpArgs false
namespace Go.Proofs.Ytodkbhbbdnjlcaa
open Go Go.Gl


theorem cross1 {A1 A2 B1 B2 : List PF} (hA : Sorted (A1 ++ A2)) (hB : Sorted (B1 ++ B2)) (h : ∀ x y, 0 < A1.length → (A1 ++ A2)[A1.length - 1]? = some x → (B1 ++ B2)[B1.length]? = some y → leP x y) : ∀ x ∈ A1, ∀ y ∈ B2, leP x y := by
  intro x hx y hy
  cases B2 with
  | nil => cases hy
  | cons z E =>
    have h0 : 0 < A1.length := List.length_pos_of_mem hx
    obtain ⟨w, D, rfl⟩ := snoc_of h0
    have h1 : leP w z := h w z h0 (by rw [List.append_assoc]; exact get_at (A := D) (x := w) (R := A2) (by simp) (by simp)) (get_at rfl rfl)
    refine leP_trans (last_le hA h1 x hx) ?_
    rcases List.mem_cons.1 hy with rfl | hy
    · exact (by unfold leP; rw [(cmpF_le _ _)]; by_cases e : y.f.level = 0 <;> simp [e, (cmpB_zero _ _).2])
    · exact (List.pairwise_cons.1 hB.right).1 y hy
theorem ins_law {B B1 B2 : List PF} {d : PF} (hB : Sorted B) (he : B1 ++ B2 = B) (h1 : ∀ y, 0 < B1.length → B[B1.length - 1]? = some y → leP y d) (h2 : ∀ y, B[B1.length]? = some y → leP d y) : Sorted (B1 ++ d :: B2) ∧ (B1 ++ d :: B2).Perm (d :: B) := by
  subst he
  refine ⟨ins_sorted hB (fun x hx => ?_) (fun y hy => ?_), List.perm_middle⟩
  · exact cross1 (B1 := []) (B2 := [d]) hB (by simp [Sorted]) (fun x y h0 hx hy => by simp at hy; subst hy; exact h1 x h0 hx) x hx d (by simp)
  · exact cross1 (A1 := [d]) (A2 := []) (by simp [Sorted]) hB (fun x y h0 hx hy => by simp at hx; subst hx; exact h2 y hy) d (by simp) y hy
theorem merge_law {A1 A2 B1 B2 V W : List PF} (hA : Sorted (A1 ++ A2)) (hB : Sorted (B1 ++ B2)) (hV : V.Perm (A1 ++ B1)) (hV2 : Sorted V) (hW : W.Perm (A2 ++ B2)) (hW2 : Sorted W)
    (h1 : ∀ x y, 0 < A1.length → (A1 ++ A2)[A1.length - 1]? = some x → (B1 ++ B2)[B1.length]? = some y → leP x y)
    (h2 : ∀ y x, 0 < B1.length → (B1 ++ B2)[B1.length - 1]? = some y → (A1 ++ A2)[A1.length]? = some x → leP y x) : Sorted (V ++ W) ∧ (V ++ W).Perm (A1 ++ A2 ++ (B1 ++ B2)) := by
  constructor
  · refine List.pairwise_append.2 ⟨hV2, hW2, fun x hx y hy => ?_⟩
    rcases List.mem_append.1 (hV.mem_iff.1 hx) with hx | hx <;> rcases List.mem_append.1 (hW.mem_iff.1 hy) with hy | hy
    · exact (List.pairwise_append.1 hA).2.2 x hx y hy
    · exact cross1 hA hB h1 x hx y hy
    · exact cross1 hB hA h2 x hx y hy
    · exact (List.pairwise_append.1 hB).2.2 x hx y hy
  · refine (hV.append hW).trans ?_
    rw [List.append_assoc, List.append_assoc]
    refine List.Perm.append_left A1 ?_
    rw [← List.append_assoc, ← List.append_assoc]
    exact List.Perm.append_right B2 List.perm_append_comm
theorem get_in {l P B Q : List PF} {y : PF} {i k : Nat} (h : l = P ++ (B ++ Q)) (hB : B[k]? = some y) (hi : i = P.length + k) : l[i]? = some y := by
  subst h; subst hi
  have := (List.getElem?_eq_some_iff.1 hB).1
  rw [List.getElem?_append_right (by omega), Nat.add_sub_cancel_left, List.getElem?_append_left this, hB]
def MergeC (N : Nat) : Prop := ∀ {I : Gh} {L : List Seg} {a : Option Addr} {m c : Nat} {S0 : Seg} {pre A B post : List PF} (_ : FOwn pcells 53 I a m c S0 (pre ++ (A ++ (B ++ (post))))) (lo mid hi : Int) (_ : lo = pre.length) (_ : mid = pre.length + A.length) (_ : hi = pre.length + A.length + B.length) (_ : 0 < A.length) (_ : 0 < B.length)
  (_ : Sorted A) (_ : Sorted B) (_ : A.length + B.length ≤ N), PM Try.prog 43 #[.slice a m c, .int .i64 lo, .int .i64 mid, .int .i64 hi, .func (.func 17) #[] #[]] I L S0 fun K S v => ∃ W, v = .tuple #[] ∧ FOwn pcells 53 K a m c S (pre ++ (W ++ (post))) ∧ W.Perm (A ++ B) ∧ Sorted W


end Go.Proofs.Ytodkbhbbdnjlcaa
