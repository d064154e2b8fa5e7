/- Proved here: the part RN of the proof that the law of this seat returns true for every input; no condition. -/
import Derived.Test.YtlhibbjnhdcffaaQ
import Derived.Test.YtlhibbjnhdcffaaGl10
import Derived.Test.YtlhibbjnhdcffaaRows
import Derived.KernelRfl
set_option maxRecDepth 20000
set_option linter.unusedVariables false
set_option linter.unusedSimpArgs false
namespace Go.Proofs.Ytlhibbjnhdcffaa
open Go Go.Gl Go.ChangeShapes Go.WideShapes Go.RowKit

section
variable {H : Type} {enc : TypeId × Value → H} {P : Program} {w : World} {held : Bool} {cs : List Value} {t e : TypeId} {B : Nat}
theorem bulk_mem {d : DataW H} : ∀ {l : List (DataW H)}, d ∈ l → Rows.uptoBulk d ≤ Rows.uptoBulkAll l
  | [], h => by cases h
  | x :: l, h => by
    rw [Rows.uptoBulkAll]
    rcases List.mem_cons.1 h with rfl | h
    · omega
    · have := bulk_mem h
      omega
theorem bulk_one (d : DataW H) : 1 ≤ Rows.uptoBulk d := by
  cases d with
  | lit x => cases x <;> simp [Rows.uptoBulk]
  | _ => simp [Rows.uptoBulk]
theorem bulk_len : ∀ l : List (DataW H), l.length ≤ Rows.uptoBulkAll l
  | [] => Nat.zero_le _
  | x :: l => by
    rw [Rows.uptoBulkAll, List.length_cons]
    have := bulk_one x
    have := bulk_len l
    omega
/-- What was read as such a list of cells, of a bulk at most B. -/
def RB (enc : TypeId × Value → H) (P : Program) (w : World) (held : Bool) (B : Nat) (t : TypeId) (cs : List Value) : Prop := ∃ m z, DataW.trod enc P w 0 (fun _ => true) held m t cs = some z ∧ Wt P t z.1 ∧ Rows.uptoBulk z.1 ≤ B
theorem RB.reads (h : RB enc P w held B t cs) : Reads enc P w held t cs := by
  obtain ⟨m, z, h1, h2, _⟩ := h
  exact ⟨m, z, h1, h2⟩
theorem RB.slice {sz : Nat} (h : RB enc P w held B t cs) (ht : P.underlying t = some (.slice e)) (hC : P.cellsOf e = sz) :
    ∃ a n c xs, cs = [.slice a n c] ∧ Row (ghAll w) [] a n c sz xs ∧ c * P.bytesOf e ≤ reachBytes ∧ xs.length ≤ B ∧ ∀ y ∈ xs, RB enc P w held B e y := by
  obtain ⟨fuel, x, h, hw, hb⟩ := h
  rcases DataW.trod_slice ht h with ⟨hcs, hx⟩ | ⟨a, len, cap, elems, rest, n, rfl, hcs, hx, _, hl, hm, hlen, hel, hrest, _⟩
  · exact ⟨none, 0, 0, [], hcs, Row.empty _ _ _, by simp, Nat.zero_le _, fun y hy => by cases hy⟩
  · subst hC
    subst hx
    obtain ⟨hr1, hr2⟩ := hrest rfl
    have hb2 : Rows.uptoBulkAll (elems.map (·.1)) ≤ B := by
      have hz : Rows.uptoBulk (DataW.slice (elems.map (·.1)) (rest.map (·.1))) ≤ B := hb
      rw [Rows.uptoBulk] at hz
      omega
    have hw' : ∀ y ∈ ((elems.map (·.1)).length + (rest.map (·.1)).length) * P.bytesOf e :: (DataW.weightsAll P e (elems.map (·.1)) ++ DataW.weightsAll P e (rest.map (·.1))), y ≤ reachBytes := by
      intro y hy
      refine hw y ?_
      simp only [DataW.weights, ht]
      exact hy
    have hone : ∀ i, i < len → ∃ y z, w.cells? 0 (a.add (i * P.cellsOf e)) (P.cellsOf e) = some y ∧ DataW.trod enc P w 0 (fun _ => true) held n e y = some z ∧ elems[i]? = some z := by
      intro i hi
      have h1 := hel i hi
      rw [List.getElem?_eq_getElem (by omega : i < elems.length), Option.bind_eq_some_iff] at h1
      obtain ⟨y, hy, hz⟩ := h1
      exact ⟨y, _, hy, hz, List.getElem?_eq_getElem (by omega)⟩
    let f : Nat → List Value := fun i => (w.cells? 0 (a.add (i * P.cellsOf e)) (P.cellsOf e)).getD []
    refine ⟨some a, len, cap, (List.range len).map f, hcs, ⟨by simp, hl, hm, fun h => (by cases h), fun i y hy => ?_, fun y hy => ?_⟩, ?_, ?_, fun y hy => ?_⟩
    · rw [List.getElem?_map, Option.map_eq_some_iff] at hy
      obtain ⟨k, hk, rfl⟩ := hy
      obtain ⟨hk1, hk2⟩ := List.getElem?_eq_some_iff.1 hk
      simp at hk1 hk2
      subst hk2
      obtain ⟨y, z, hy, _, _⟩ := hone i hk1
      have : f i = y := by simp [f, hy]
      rw [this]
      exact cells_of_read hy
    · obtain ⟨i, hi, rfl⟩ := List.mem_map.1 hy
      obtain ⟨y, z, hy, _, _⟩ := hone i (List.mem_range.1 hi)
      have : f i = y := by simp [f, hy]
      rw [this]
      exact (World.cells?_some hy).2.1
    · have := hw' _ (List.mem_cons_self)
      rw [List.length_map, List.length_map, hlen, hr1] at this
      rwa [show len + (cap - len) = cap from by omega] at this
    · have := bulk_len (elems.map (·.1))
      rw [List.length_map] at this ⊢
      rw [List.length_range]
      omega
    · obtain ⟨i, hi, rfl⟩ := List.mem_map.1 hy
      obtain ⟨y, z, hy, hz, hez⟩ := hone i (List.mem_range.1 hi)
      have : f i = y := by simp [f, hy]
      rw [this]
      have hmem : z.1 ∈ elems.map (·.1) := List.mem_map.2 ⟨z, List.mem_of_getElem? hez, rfl⟩
      exact ⟨n, z, hz, wt_all (fun q hq => hw' q (List.mem_cons_of_mem _ (List.mem_append_left _ hq))) z.1 hmem, Nat.le_trans (bulk_mem hmem) hb2⟩
theorem RB.struct {fs : Array Field} (h : RB enc P w held B t cs) (ht : P.underlying t = some (.struct fs)) : cs.length = P.cellsOf t ∧
    ∀ (i : Nat) (f : Field), fs[i]? = some f → RB enc P w held B f.type ((cs.drop f.offset).take (P.cellsOf f.type)) := by
  obtain ⟨fuel, x, h, hw, hb⟩ := h
  obtain ⟨xs, n, rfl, hx, hl, hlen, hf⟩ := DataW.trod_struct ht h
  subst hx
  have hb2 : Rows.uptoBulkAll (xs.map (·.1)) ≤ B := by
    have hz : Rows.uptoBulk (DataW.agg (xs.map (·.1))) ≤ B := hb
    rw [Rows.uptoBulk] at hz
    omega
  refine ⟨hl, fun i f hi => ?_⟩
  have h1 := hf i f hi
  have hil : i < fs.size := (Array.getElem?_eq_some_iff.1 hi).1
  rw [List.getElem?_eq_getElem (by omega : i < xs.length)] at h1
  exact ⟨n, _, h1, wt_each (ts := fs.toList.map (·.type)) (l := xs.map (·.1)) (fun y hy => hw y (by simp only [DataW.weights, ht]; exact hy)) i f.type _ (by simp [hi]) (by simp [List.getElem?_eq_getElem (by omega : i < xs.length)]),
    Nat.le_trans (bulk_mem (List.mem_map.2 ⟨xs[i], List.getElem_mem _, rfl⟩)) hb2⟩
def structB (P : Program) (t : TypeId) (l : Array (TypeId × Nat)) : Bool := match P.underlying t with | some (.struct fs) => (fs.map fun f => (f.type, f.offset)) == l | _ => false
theorem structB_spec {P : Program} {t : TypeId} {l : Array (TypeId × Nat)} (h : structB P t l = true) : ∃ fs, P.underlying t = some (.struct fs) ∧ (fs.map fun f => (f.type, f.offset)) = l := by
  unfold structB at h
  split at h
  · rename_i fs hu
    exact ⟨fs, hu, by simpa using h⟩
  · cases h
theorem field_of {fs : Array Field} {l : Array (TypeId × Nat)} (h : (fs.map fun f => (f.type, f.offset)) = l) {i : Nat} {t o : Nat} (hi : l[i]? = some (t, o)) : ∃ f, fs[i]? = some f ∧ f.type = t ∧ f.offset = o := by
  subst h
  rw [Array.getElem?_map, Option.map_eq_some_iff] at hi
  obtain ⟨f, hf, he⟩ := hi
  simp only [Prod.mk.injEq] at he
  exact ⟨f, hf, he.1, he.2⟩
theorem rb_at {t : TypeId} {l : Array (TypeId × Nat)} (hs : ∃ fs, P.underlying t = some (.struct fs) ∧ (fs.map fun f => (f.type, f.offset)) = l) (h : RB enc P w held B t cs) {i : Nat} {u o n : Nat} (hi : l[i]? = some (u, o)) (hn : P.cellsOf u = n) :
    RB enc P w held B u ((cs.drop o).take n) := by
  obtain ⟨fs, h1, h2⟩ := hs
  obtain ⟨f, hf, rfl, rfl⟩ := field_of h2 hi
  subst hn
  exact (h.struct h1).2 i f hf
theorem rb_len {t : TypeId} {l : Array (TypeId × Nat)} (hs : ∃ fs, P.underlying t = some (.struct fs) ∧ (fs.map fun f => (f.type, f.offset)) = l) (h : RB enc P w held B t cs) : cs.length = P.cellsOf t := by
  obtain ⟨fs, h1, _⟩ := hs
  exact (h.struct h1).1
theorem wf_i64 {n : Int} (h : (Lit.int .i64 n).wf = true) : -9223372036854775808 ≤ n ∧ n ≤ 9223372036854775807 := by
  simp [Lit.wf, IntKind.min, IntKind.max, IntKind.signed, IntKind.bits] at h
  omega
theorem RB.u64 (h : RB enc P w held B t cs) (ht : P.underlying t = some (.int .u64)) : ∃ n : Nat, cs = [.int .u64 (n : Int)] ∧ n ≤ 18446744073709551615 := by
  obtain ⟨a, rfl, ha⟩ := h.reads.int ht
  have := wf_u64 ha
  exact ⟨a.toNat, by rw [Int.toNat_of_nonneg this.1], by omega⟩
theorem RB.i64 (h : RB enc P w held B t cs) (ht : P.underlying t = some (.int .i64)) : ∃ n : Int, cs = [.int .i64 n] ∧ -9223372036854775808 ≤ n ∧ n ≤ 9223372036854775807 := by
  obtain ⟨a, rfl, ha⟩ := h.reads.int ht
  exact ⟨a, rfl, wf_i64 ha⟩
/-- A slice of records. -/
theorem RB.row {α : Type} {R : Rep α} {sz : Nat} {Q : α → Prop} (h : RB enc P w held B t cs) (ht : P.underlying t = some (.slice e)) (hC : P.cellsOf e = R.sz) (hby : P.bytesOf e = R.bys) (hx : ∀ ys, RB enc P w held B e ys → ∃ x : α, ys = R.cells x ∧ R.ok (ghAll w) x ∧ Q x) :
    ∃ s : Sl α, cs = [s.v] ∧ FRow R (ghAll w) [] s ∧ s.xs.length ≤ B ∧ ∀ x ∈ s.xs, Q x := by
  obtain ⟨a, n, c, xs, hcs, hr, hb, hl, hy⟩ := h.slice ht hC
  obtain ⟨l, rfl, hq⟩ := rows_map (f := R.cells) (Q := fun x => R.ok (ghAll w) x ∧ Q x) (xs := xs) fun y h => by
    obtain ⟨x, h1, h2, h3⟩ := hx y (hy y h)
    exact ⟨x, h1, h2, h3⟩
  have h1 := hr.len
  have h2 := hr.le
  rw [List.length_map] at h1 hl
  rw [hby] at hb
  unfold reachBytes at hb
  have h3 : l.length * R.bys ≤ c * R.bys := Nat.mul_le_mul_right _ (by omega)
  exact ⟨⟨⟨a, n, c⟩, l⟩, hcs, ⟨hr, fun x hx => (hq x hx).1, by show l.length * R.bys ≤ _; omega⟩, hl, fun x hx => (hq x hx).2⟩
end
section
variable {H : Type} {enc : TypeId × Value → H} {w : World} {held : Bool} {cs : List Value} {B : Nat}
theorem ci (t : TypeId) {n : Nat} (h : Try.prog.cellsOf t = n) : Try.prog.cellsOf t = n := h
theorem c3 : Try.prog.cellsOf 3 = 1 := by kernel_rfl
theorem c4 : Try.prog.cellsOf 4 = 1 := by kernel_rfl
theorem c22 : Try.prog.cellsOf 22 = 1 := by kernel_rfl
theorem c23 : Try.prog.cellsOf 23 = 1 := by kernel_rfl
theorem c25 : Try.prog.cellsOf 25 = 5 := by kernel_rfl
theorem c44 : Try.prog.cellsOf 44 = 9 := by kernel_rfl
theorem by22 : Try.prog.bytesOf 22 = 8 := by kernel_rfl
theorem by44 : Try.prog.bytesOf 44 = 88 := by kernel_rfl
theorem u23 : Try.prog.underlying 23 = some (.slice 22) := by kernel_rfl
theorem u26 : Try.prog.underlying 26 = some (.slice 44) := by kernel_rfl
theorem st25 : ∃ fs, Try.prog.underlying 25 = some (.struct fs) ∧ (fs.map fun f => (f.type, f.offset)) = #[(22, 0), (3, 1), (22, 2), (22, 3), (23, 4)] := structB_spec (by kernel_rfl)
theorem st44 : ∃ fs, Try.prog.underlying 44 = some (.struct fs) ∧ (fs.map fun f => (f.type, f.offset)) = #[(3, 0), (3, 1), (3, 2), (22, 3), (22, 4), (22, 5), (22, 6), (23, 7), (4, 8)] := structB_spec (by kernel_rfl)
theorem reads_terms (h : RB enc Try.prog w held B 23 cs) : ∃ s : Sl Nat, cs = [s.v] ∧ FRow rU64 (ghAll w) [] s ∧ s.xs.length ≤ B := by
  obtain ⟨s, h1, h2, h3, _⟩ := h.row (R := rU64) (sz := 1) (Q := fun _ => True) u23 c22 by22 fun ys hy => by
    obtain ⟨n, h1, h2⟩ := hy.u64 int22
    exact ⟨n, h1, h2, trivial⟩
  exact ⟨s, h1, h2, h3⟩
theorem list5 {α : Type} {l : List α} (h : l.length = 5) : ∃ a b c d e, l = [a, b, c, d, e] := by
  match l, h with
  | [a, b, c, d, e], _ => exact ⟨a, b, c, d, e, rfl⟩
theorem list9 {α : Type} {l : List α} (h : l.length = 9) : ∃ a b c d e f g i j, l = [a, b, c, d, e, f, g, i, j] := by
  match l, h with
  | [a, b, c, d, e, f, g, i, j], _ => exact ⟨a, b, c, d, e, f, g, i, j, rfl⟩
theorem reads_form (h : RB enc Try.prog w held B 25 cs) : ∃ f : Form, cs = f.cells ∧ f.Ok (ghAll w) := by
  obtain ⟨x0, x1, x2, x3, x4, rfl⟩ := list5 ((rb_len st25 h).trans c25)
  obtain ⟨n0, e0, w0⟩ := (rb_at st25 h (i := 0) rfl c22).u64 int22
  obtain ⟨n1, e1, w1⟩ := (rb_at st25 h (i := 1) rfl c3).i64 int3
  obtain ⟨n2, e2, w2⟩ := (rb_at st25 h (i := 2) rfl c22).u64 int22
  obtain ⟨n3, e3, w3⟩ := (rb_at st25 h (i := 3) rfl c22).u64 int22
  obtain ⟨s4, e4, w4, _⟩ := reads_terms (rb_at st25 h (i := 4) rfl c23)
  simp at e0 e1 e2 e3 e4
  subst e0; subst e1; subst e2; subst e3; subst e4
  exact ⟨⟨n0, n1, n2, n3, s4⟩, rfl, ⟨w0, w1, w2, w3, w4⟩⟩
theorem reads_note (h : RB enc Try.prog w held B 44 cs) : ∃ f : Note, cs = f.cells ∧ f.Ok (ghAll w) ∧ f.abs.Terms.length ≤ B := by
  obtain ⟨x0, x1, x2, x3, x4, x5, x6, x7, x8, rfl⟩ := list9 ((rb_len st44 h).trans c44)
  obtain ⟨n0, e0, w0⟩ := (rb_at st44 h (i := 0) rfl c3).i64 int3
  obtain ⟨n1, e1, w1⟩ := (rb_at st44 h (i := 1) rfl c3).i64 int3
  obtain ⟨n2, e2, w2⟩ := (rb_at st44 h (i := 2) rfl c3).i64 int3
  obtain ⟨n3, e3, w3⟩ := (rb_at st44 h (i := 3) rfl c22).u64 int22
  obtain ⟨n4, e4, w4⟩ := (rb_at st44 h (i := 4) rfl c22).u64 int22
  obtain ⟨n5, e5, w5⟩ := (rb_at st44 h (i := 5) rfl c22).u64 int22
  obtain ⟨n6, e6, w6⟩ := (rb_at st44 h (i := 6) rfl c22).u64 int22
  obtain ⟨s7, e7, w7, l7⟩ := reads_terms (rb_at st44 h (i := 7) rfl c23)
  obtain ⟨b8, e8⟩ := (rb_at st44 h (i := 8) rfl c4).reads.bool bool4
  simp at e0 e1 e2 e3 e4 e5 e6 e7 e8
  subst e0; subst e1; subst e2; subst e3; subst e4; subst e5; subst e6; subst e7; subst e8
  exact ⟨⟨n0, n1, n2, n3, n4, n5, n6, s7, b8⟩, rfl, ⟨w0, w1, w2, w3, w4, w5, w6, w7⟩, l7⟩
theorem reads_notes (h : RB enc Try.prog w held B 26 cs) : ∃ s : Sl Note, cs = [s.v] ∧ FRow rNote (ghAll w) [] s ∧ ∀ x ∈ s.xs, x.abs.Terms.length ≤ B := by
  obtain ⟨s, h1, h2, _, h3⟩ := h.row (R := rNote) (sz := 9) (Q := fun x => x.abs.Terms.length ≤ B) u26 c44 by44 fun ys hy => reads_note hy
  exact ⟨s, h1, h2, h3⟩
end

end Go.Proofs.Ytlhibbjnhdcffaa
