/- The logic 'Gl', part 10: from a claim's reading to what lies frozen; and back. -/
import Derived.Test.YtlhibbjnhdcffaaGl9
import Derived.Below
import Derived.ChangeSame
import Derived.ChangeArms
import Derived.DataReads
import Derived.SizedLaws
namespace Go.Gl
open Go Go.ChangeShapes Go.WideShapes Go.RowKit

/-- Everything that is there, frozen. -/
def ghAll (w : World) : Gh := ⟨fun b => w.heap[b]?, w.os, w.tape, w.output⟩
theorem st_all (w : World) : St (ghAll w) [] w := ⟨fun _ _ h => h, fun x hx => by simp at hx, fun x hx => by simp at hx, by simp, rfl, rfl, rfl⟩
theorem below_of_st {w w' : World} {K : Gh} (hK : (ghAll w).le K) (h : St K [] w') : Below w.heap.size w w' := by
  have hb : ∀ k, k < w.heap.size → w'.heap[k]? = w.heap[k]? := fun k hk => by
    have h1 : w.heap[k]? = some w.heap[k] := Array.getElem?_eq_getElem hk
    rw [h1]
    exact h.imm k _ (hK.imm k _ h1)
  refine ⟨h.os.trans hK.os, h.tape.trans hK.tape, h.output.trans hK.output, ?_, hb⟩
  by_cases h0 : w.heap.size = 0
  · omega
  · have := hb (w.heap.size - 1) (by omega)
    rw [Array.getElem?_eq_getElem (show w.heap.size - 1 < w.heap.size by omega)] at this
    have := (Array.getElem?_eq_some_iff.1 this).1
    omega
theorem cell_some {w : World} {a : Addr} {v : Value} (h : w.cell? a = some v) : a.spot = none ∧ ∃ c T fr, w.heap[a.block]? = some (.cells c T fr) ∧ c[a.off]? = some v := by
  unfold World.cell? at h
  split at h
  · rename_i c T fr hc
    split at h
    · cases h
    · rename_i hs
      exact ⟨by cases hq : a.spot <;> simp_all, c, T, fr, hc, h⟩
  · cases h
theorem cells_of_read {w : World} {base n : Nat} {a : Addr} {cs : List Value} (h : w.cells? base a n = some cs) : Cells (ghAll w) [] a cs := by
  obtain ⟨_, hl, hat⟩ := World.cells?_some h
  by_cases h0 : n = 0
  · exact .inl (List.eq_nil_of_length_eq_zero (by omega))
  · have h1 := hat 0 (by omega)
    rw [List.getElem?_eq_getElem (by omega : 0 < cs.length)] at h1
    obtain ⟨hs, c, T, fr, hc, hv⟩ := cell_some h1
    have hs0 : a.spot = none := by
      cases hq : a.spot with
      | none => rfl
      | some q => simp [Addr.add, hq] at hs
    rw [addr_add _ hs0] at hc
    refine .inr ⟨c, T, fr, hs0, .inl hc, fun j v hj => ?_⟩
    have hjl := (List.getElem?_eq_some_iff.1 hj).1
    have h2 := hat j (by omega)
    rw [hj] at h2
    obtain ⟨_, c2, T2, fr2, hc2, hv2⟩ := cell_some h2
    rw [addr_add _ hs0] at hc2 hv2
    simp only [hc, Option.some.injEq, Obj.cells.injEq] at hc2
    obtain ⟨rfl, _, _⟩ := hc2
    exact hv2
section
variable {H : Type} {enc : TypeId × Value → H} {P : Program} {w : World} {held : Bool} {fuel : Nat} {t e : TypeId} {cs : List Value} {x : DataW H × List MemPlace}
/-- Within the form's reach. -/
def Wt (P : Program) (t : TypeId) (d : DataW H) : Prop := ∀ y ∈ d.weights P t, y ≤ reachBytes
theorem wt_all {P : Program} {e : TypeId} : ∀ {l : List (DataW H)}, (∀ y ∈ DataW.weightsAll P e l, y ≤ reachBytes) → ∀ d ∈ l, Wt P e d
  | [], _, d, hd => by cases hd
  | d' :: r, h, d, hd => by
    simp only [DataW.weightsAll, List.mem_append] at h
    rcases List.mem_cons.1 hd with rfl | hd
    · exact fun y hy => h y (.inl hy)
    · exact wt_all (fun y hy => h y (.inr hy)) d hd
theorem wt_each {P : Program} : ∀ {ts : List TypeId} {l : List (DataW H)}, (∀ y ∈ DataW.weightsEach P ts l, y ≤ reachBytes) → ∀ (j : Nat) (t : TypeId) (d : DataW H), ts[j]? = some t → l[j]? = some d → Wt P t d
  | [], _, _, j, t, d, ht, _ => by simp at ht
  | _ :: _, [], _, j, t, d, _, hd => by simp at hd
  | t' :: ts, d' :: r, h, 0, t, d, ht, hd => by
    simp only [List.getElem?_cons_zero, Option.some.injEq] at ht hd
    subst ht; subst hd
    simp only [DataW.weightsEach, List.mem_append] at h
    exact fun y hy => h y (.inl hy)
  | t' :: ts, d' :: r, h, j + 1, t, d, ht, hd => by
    simp only [List.getElem?_cons_succ] at ht hd
    simp only [DataW.weightsEach, List.mem_append] at h
    exact wt_each (fun y hy => h y (.inr hy)) j t d ht hd
/-- What was read as such a list of cells. -/
def Reads (enc : TypeId × Value → H) (P : Program) (w : World) (held : Bool) (t : TypeId) (cs : List Value) : Prop := ∃ m z, DataW.trod enc P w 0 (fun _ => true) held m t cs = some z ∧ Wt P t z.1
theorem Reads.slice {sz : Nat} (h : Reads enc P w held t cs) (ht : P.underlying t = some (.slice e)) (hC : P.cellsOf e = sz) :
    ∃ a n c xs, cs = [.slice a n c] ∧ Row (ghAll w) [] a n c sz xs ∧ c * P.bytesOf e ≤ reachBytes ∧ ∀ y ∈ xs, Reads enc P w held e y := by
  obtain ⟨fuel, x, h, hw⟩ := h
  rcases DataW.trod_slice ht h with ⟨hcs, hx⟩ | ⟨a, len, cap, elems, rest, n, rfl, hcs, hx, _, hl, hm, hlen, hel, hrest, _⟩
  · exact ⟨none, 0, 0, [], hcs, Row.empty _ _ _, by simp, fun y hy => by cases hy⟩
  · subst hC
    subst hx
    obtain ⟨hr1, hr2⟩ := hrest rfl
    have hw' : ∀ y ∈ ((elems.map (·.1)).length + (rest.map (·.1)).length) * P.bytesOf e :: (DataW.weightsAll P e (elems.map (·.1)) ++ DataW.weightsAll P e (rest.map (·.1))), y ≤ reachBytes := by
      intro y hy
      refine hw y ?_
      simp only [DataW.weights, ht]
      exact hy
    have hone : ∀ i, i < len → ∃ y z, w.cells? 0 (a.add (i * P.cellsOf e)) (P.cellsOf e) = some y ∧ DataW.trod enc P w 0 (fun _ => true) held n e y = some z ∧ elems[i]? = some z := by
      intro i hi
      have h1 := hel i hi
      rw [List.getElem?_eq_getElem (by omega : i < elems.length), Option.bind_eq_some_iff] at h1
      obtain ⟨y, hy, hz⟩ := h1
      exact ⟨y, _, hy, hz, List.getElem?_eq_getElem (by omega)⟩
    let f : Nat → List Value := fun i => (w.cells? 0 (a.add (i * P.cellsOf e)) (P.cellsOf e)).getD []
    refine ⟨some a, len, cap, (List.range len).map f, hcs, ⟨by simp, hl, hm, fun h => (by cases h), fun i y hy => ?_, fun y hy => ?_⟩, ?_, fun y hy => ?_⟩
    · rw [List.getElem?_map, Option.map_eq_some_iff] at hy
      obtain ⟨k, hk, rfl⟩ := hy
      obtain ⟨hk1, hk2⟩ := List.getElem?_eq_some_iff.1 hk
      simp at hk1 hk2
      subst hk2
      obtain ⟨y, z, hy, _, _⟩ := hone i hk1
      have : f i = y := by simp [f, hy]
      rw [this]
      exact cells_of_read hy
    · obtain ⟨i, hi, rfl⟩ := List.mem_map.1 hy
      obtain ⟨y, z, hy, _, _⟩ := hone i (List.mem_range.1 hi)
      have : f i = y := by simp [f, hy]
      rw [this]
      exact (World.cells?_some hy).2.1
    · have := hw' _ (List.mem_cons_self)
      rw [List.length_map, List.length_map, hlen, hr1] at this
      rwa [show len + (cap - len) = cap from by omega] at this
    · obtain ⟨i, hi, rfl⟩ := List.mem_map.1 hy
      obtain ⟨y, z, hy, hz, hez⟩ := hone i (List.mem_range.1 hi)
      have : f i = y := by simp [f, hy]
      rw [this]
      exact ⟨n, z, hz, wt_all (fun q hq => hw' q (List.mem_cons_of_mem _ (List.mem_append_left _ hq))) z.1 (List.mem_map.2 ⟨z, List.mem_of_getElem? hez, rfl⟩)⟩
theorem Reads.struct {fs : Array Field} (h : Reads enc P w held t cs) (ht : P.underlying t = some (.struct fs)) : cs.length = P.cellsOf t ∧
    ∀ (i : Nat) (f : Field), fs[i]? = some f → Reads enc P w held f.type ((cs.drop f.offset).take (P.cellsOf f.type)) := by
  obtain ⟨fuel, x, h, hw⟩ := h
  obtain ⟨xs, n, rfl, hx, hl, hlen, hf⟩ := DataW.trod_struct ht h
  subst hx
  refine ⟨hl, fun i f hi => ?_⟩
  have h1 := hf i f hi
  have hil : i < fs.size := (Array.getElem?_eq_some_iff.1 hi).1
  rw [List.getElem?_eq_getElem (by omega : i < xs.length)] at h1
  refine ⟨n, _, h1, wt_each (ts := fs.toList.map (·.type)) (l := xs.map (·.1)) (fun y hy => hw y (by simp only [DataW.weights, ht]; exact hy)) i f.type _ (by simp [hi]) (by simp [List.getElem?_eq_getElem (by omega : i < xs.length)])⟩
theorem Reads.int {k : IntKind} (h : Reads enc P w held t cs) (ht : P.underlying t = some (.int k)) : ∃ a, cs = [.int k a] ∧ (Lit.int k a).wf = true := by
  obtain ⟨fuel, x, h, _⟩ := h
  obtain ⟨n, h1, _, h2⟩ := DataW.trod_int ht h
  exact ⟨n, h1, h2⟩
theorem Reads.bool (h : Reads enc P w held t cs) (ht : P.underlying t = some .bool) : ∃ b, cs = [.bool b] := by
  obtain ⟨fuel, x, h, _⟩ := h
  obtain ⟨n, h1, _⟩ := DataW.trod_bool ht h
  exact ⟨n, h1⟩
theorem rows_map {α : Type} {f : α → List Value} {Q : α → Prop} : ∀ {xs : List (List Value)}, (∀ y ∈ xs, ∃ a, y = f a ∧ Q a) → ∃ l : List α, xs = l.map f ∧ ∀ a ∈ l, Q a
  | [], _ => ⟨[], rfl, fun a h => by cases h⟩
  | y :: r, h => by
    obtain ⟨a, ha, hq⟩ := h y List.mem_cons_self
    obtain ⟨l, hl, hl2⟩ := rows_map (xs := r) fun z hz => h z (List.mem_cons_of_mem _ hz)
    refine ⟨a :: l, by rw [ha, hl]; rfl, fun b hb => ?_⟩
    rcases List.mem_cons.1 hb with rfl | hb
    · exact hq
    · exact hl2 b hb
theorem wf_u64 {n : Int} (h : (Lit.int .u64 n).wf = true) : 0 ≤ n ∧ n ≤ 18446744073709551615 := by
  simp [Lit.wf, IntKind.min, IntKind.max, IntKind.signed, IntKind.bits] at h
  omega
theorem wf_u8 {n : Int} (h : (Lit.int .u8 n).wf = true) : 0 ≤ n ∧ n ≤ 255 := by
  simp [Lit.wf, IntKind.min, IntKind.max, IntKind.signed, IntKind.bits] at h
  omega
/-- A slice of bytes. -/
theorem Reads.bytes (h : Reads enc P w held t cs) (ht : P.underlying t = some (.slice e)) (he : P.underlying e = some (.int .u8)) (hC : P.cellsOf e = 1) (hB : P.bytesOf e = 1) :
    ∃ a n c l, cs = [.slice a n c] ∧ Bytes (ghAll w) [] a n c l ∧ l.length ≤ 140737488351232 := by
  obtain ⟨a, n, c, xs, hcs, hr, hb, hx⟩ := h.slice ht hC
  obtain ⟨l, rfl, _⟩ := rows_map (f := fun b : UInt8 => [.int .u8 (b.toNat : Int)]) (Q := fun _ => True) (xs := xs) fun y hy => by
    obtain ⟨z, rfl, hz⟩ := (hx y hy).int he
    have := wf_u8 hz
    refine ⟨UInt8.ofNat z.toNat, ?_, trivial⟩
    congr 2
    have h9 : (UInt8.ofNat z.toNat).toNat = z.toNat % 256 := by simp
    rw [h9]
    omega
  have h1 := hr.len
  have h2 := hr.le
  rw [List.length_map] at h1
  rw [hB] at hb
  unfold reachBytes at hb
  exact ⟨a, n, c, l, hcs, hr, by omega⟩
theorem len3 {α : Type} {l : List α} (h : l.length = 3) : ∃ a b c, l = [a, b, c] := by
  match l, h with
  | [a, b, c], _ => exact ⟨a, b, c, rfl⟩
theorem len4 {α : Type} {l : List α} (h : l.length = 4) : ∃ a b c d, l = [a, b, c, d] := by
  match l, h with
  | [a, b, c, d], _ => exact ⟨a, b, c, d, rfl⟩
theorem len6 {α : Type} {l : List α} (h : l.length = 6) : ∃ a b c d e f, l = [a, b, c, d, e, f] := by
  match l, h with
  | [a, b, c, d, e, f], _ => exact ⟨a, b, c, d, e, f, rfl⟩
end
end Go.Gl
