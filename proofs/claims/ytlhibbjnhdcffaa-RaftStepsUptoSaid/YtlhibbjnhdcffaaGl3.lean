/- The logic 'Gl', part 3: operations on memory; calls; results. -/
import Derived.Test.YtlhibbjnhdcffaaGl2
namespace Go.Gl
open Go

/-- A block is known: frozen, or owned. -/
def Rd (I : Gh) (L : List Seg) (b : Nat) (o : Obj) : Prop := I.imm b = some o ∨ (b, o) ∈ L.flatten
theorem Rd.heap {I J : Gh} {L M : List Seg} {w : World} {b : Nat} {o : Obj} (h : Rd I L b o) (hI : I.le J) (hL : Incl L M) (hw : St J M w) : w.heap[b]? = some o := by
  rcases h with h | h
  · exact hw.imm b o (hI.imm b o h)
  · exact hw.own _ (hL.mem h)
theorem Rd.mono {I J : Gh} {L M : List Seg} {b : Nat} {o : Obj} (h : Rd I L b o) (hI : I.le J) (hL : Incl L M) : Rd J M b o := h.imp (hI.imm b o) (hL.mem)

/-- From this address on lie these cells. -/
def Cells (I : Gh) (L : List Seg) (a : Addr) (cs : List Value) : Prop :=
  cs = [] ∨ ∃ c T fr, a.spot = none ∧ Rd I L a.block (.cells c T fr) ∧ ∀ j v, cs[j]? = some v → c[a.off + j]? = some v

theorem Cells.nil (I : Gh) (L : List Seg) (a : Addr) : Cells I L a [] := .inl rfl
theorem Cells.mono {I J : Gh} {L M : List Seg} {a : Addr} {cs : List Value} (h : Cells I L a cs) (hI : I.le J) (hL : Incl L M) : Cells J M a cs := by
  rcases h with h | ⟨c, T, fr, h1, h2, h3⟩
  · exact .inl h
  · exact .inr ⟨c, T, fr, h1, h2.mono hI hL, h3⟩
theorem Cells.le {I J : Gh} {L : List Seg} {a : Addr} {cs : List Value} (h : Cells I L a cs) (hI : I.le J) : Cells J L a cs := h.mono hI (.refl L)

theorem addr_add (a : Addr) (h : a.spot = none) (j : Nat) : a.add j = ⟨a.block, a.off + j, none⟩ := by
  unfold Addr.add
  split
  · rename_i hj; subst hj; cases a; simp_all
  · rfl

theorem Cells.cell {I J : Gh} {L M : List Seg} {w : World} {a : Addr} {cs : List Value} (h : Cells I L a cs) (hI : I.le J) (hL : Incl L M) (hw : St J M w) :
    ∀ j v, cs[j]? = some v → w.cell? (a.add j) = some v := by
  intro j v hv
  rcases h with h | ⟨c, T, fr, h1, h2, h3⟩
  · subst h; cases hv
  · rw [addr_add a h1]
    have := h2.heap hI hL hw
    simp [World.cell?, this, h3 j v hv]

/-- A part of known cells. -/
theorem Cells.part {I : Gh} {L : List Seg} {a : Addr} {cs ds : List Value} (h : Cells I L a cs) (k : Nat) (hd : ∀ j v, ds[j]? = some v → cs[k + j]? = some v) : Cells I L (a.add k) ds := by
  rcases h with h | ⟨c, T, fr, h1, h2, h3⟩
  · subst h
    cases ds with
    | nil => exact .inl rfl
    | cons x r => have := hd 0 x rfl; cases this
  · rw [addr_add a h1]
    exact .inr ⟨c, T, fr, rfl, h2, fun j v hv => by have := h3 _ _ (hd j v hv); rwa [← Nat.add_assoc] at this⟩

-- membership in what is owned, by syntax
theorem own_head {b : Nat} {o : Obj} {L : List Seg} : (b, o) ∈ List.flatten ([(b, o)] :: L) := by simp
theorem own_tail {b : Nat} {o : Obj} {S : Seg} {L : List Seg} (h : (b, o) ∈ L.flatten) : (b, o) ∈ List.flatten (S :: L) := by
  simp only [List.flatten_cons, List.mem_append]; exact .inr h
theorem own_seg {b : Nat} {o : Obj} {S : Seg} {L : List Seg} (h : (b, o) ∈ S) : (b, o) ∈ List.flatten (S :: L) := by
  simp only [List.flatten_cons, List.mem_append]; exact .inl h

theorem cells_own {I : Gh} {L : List Seg} {b off : Nat} {c : Array Value} {T : TypeId} {fr : Nat × Nat} {cs : List Value} (hm : (b, Obj.cells c T fr) ∈ L.flatten)
    (hc : (c.toList.drop off).take cs.length = cs) : Cells I L ⟨b, off, none⟩ cs := by
  refine .inr ⟨c, T, fr, rfl, .inr hm, fun j v hv => ?_⟩
  have hj := (List.getElem?_eq_some_iff.1 hv).1
  rw [← hc, List.getElem?_take_of_lt hj, List.getElem?_drop] at hv
  simpa using hv
theorem cells_imm {I : Gh} {L : List Seg} {b off : Nat} {c : Array Value} {T : TypeId} {fr : Nat × Nat} {cs : List Value} (hm : I.imm b = some (Obj.cells c T fr))
    (hc : (c.toList.drop off).take cs.length = cs) : Cells I L ⟨b, off, none⟩ cs := by
  refine .inr ⟨c, T, fr, rfl, .inl hm, fun j v hv => ?_⟩
  have hj := (List.getElem?_eq_some_iff.1 hv).1
  rw [← hc, List.getElem?_take_of_lt hj, List.getElem?_drop] at hv
  simpa using hv

/-! ### Facts on types, closed -/
def aggB (P : Program) (t : TypeId) (sz : Nat) : Bool :=
  (match P.underlying t with | some (.struct _) | some (.array _ _) => true | _ => false) && (match P.info? t with | some i => Nat.beq i.size sz | none => false)
def oneB (P : Program) (t : TypeId) : Bool :=
  (match P.underlying t with | some (.struct _) | some (.array _ _) | none => false | _ => true) && (match P.info? t with | some i => Nat.beq i.size 1 | none => false)
def fieldB (P : Program) (t : TypeId) (k off : Nat) : Bool :=
  match P.underlying t with
  | some (.struct fs) => (match fs[k]? with | some f => Nat.beq f.offset off && (match P.info? f.type with | some i => !Nat.beq i.size 0 | none => false) | none => false)
  | _ => false
def sliceB (P : Program) (t e sz bytes : Nat) : Bool :=
  (match P.underlying t with | some (.slice e') => Nat.beq e' e | _ => false) && (match P.info? e with | some i => Nat.beq i.size sz && Nat.beq i.bytes bytes | none => false)

theorem aggB_spec {P : Program} {t : TypeId} {sz : Nat} (h : aggB P t sz = true) :
    ∃ d i, P.underlying t = some d ∧ (match d with | .struct _ | .array _ _ => true | _ => false) = true ∧ P.info? t = some i ∧ i.size = sz := by
  simp only [aggB, Bool.and_eq_true] at h
  obtain ⟨h1, h2⟩ := h
  cases hu : P.underlying t with
  | none => simp [hu] at h1
  | some d =>
    cases hi : P.info? t with
    | none => simp [hi] at h2
    | some i =>
      simp only [hi] at h2
      exact ⟨d, i, rfl, by rw [hu] at h1; cases d <;> simp_all, rfl, Nat.eq_of_beq_eq_true h2⟩
theorem oneB_spec {P : Program} {t : TypeId} (h : oneB P t = true) :
    ∃ d i, P.underlying t = some d ∧ (match d with | .struct _ | .array _ _ => true | _ => false) = false ∧ P.info? t = some i ∧ i.size = 1 := by
  simp only [oneB, Bool.and_eq_true] at h
  obtain ⟨h1, h2⟩ := h
  cases hu : P.underlying t with
  | none => simp [hu] at h1
  | some d =>
    cases hi : P.info? t with
    | none => simp [hi] at h2
    | some i =>
      simp only [hi] at h2
      exact ⟨d, i, rfl, by rw [hu] at h1; cases d <;> simp_all, rfl, Nat.eq_of_beq_eq_true h2⟩
theorem fieldB_spec {P : Program} {t : TypeId} {k off : Nat} (h : fieldB P t k off = true) :
    ∃ fs f i, P.underlying t = some (.struct fs) ∧ fs[k]? = some f ∧ f.offset = off ∧ P.info? f.type = some i ∧ i.size ≠ 0 := by
  unfold fieldB at h
  split at h
  · rename_i fs hu
    split at h
    · rename_i f hf
      simp only [Bool.and_eq_true] at h
      obtain ⟨h1, h2⟩ := h
      split at h2
      · rename_i i hi
        exact ⟨fs, f, i, hu, hf, Nat.eq_of_beq_eq_true h1, hi, fun e => by rw [e] at h2; cases h2⟩
      · cases h2
    · cases h
  · cases h
theorem sliceB_spec {P : Program} {t e sz bytes : Nat} (h : sliceB P t e sz bytes = true) :
    ∃ i, P.underlying t = some (.slice e) ∧ P.info? e = some i ∧ i.size = sz ∧ i.bytes = bytes := by
  simp only [sliceB, Bool.and_eq_true] at h
  obtain ⟨h1, h2⟩ := h
  split at h1
  · rename_i e' hu
    have he : e' = e := Nat.eq_of_beq_eq_true h1
    subst he
    split at h2
    · rename_i i hi
      simp only [Bool.and_eq_true] at h2
      exact ⟨i, hu, hi, Nat.eq_of_beq_eq_true h2.1, Nat.eq_of_beq_eq_true h2.2⟩
    · cases h2
  · cases h1

section
variable {P : Program} {n : Nat} {Q : Exit → Act → World → Prop} {e : Env} {I : Gh} {L : List Seg} {d : Option Tmp} {ty : TypeId} {pos : String} {af : Array Edge} {g : Option (Nat × Bool)} {ops : Array Oper} {rest : List Oper}

theorem run_v {a : Act} {w w' : World} {s : Sem Value} {v : Value} (h : s.run P w = .ok v w') : Sem.run P (do pure (Next.value (← s))) w = .ok (.value v) w' := by
  simp [Sem.run_bind, h, Result.andThen]

/-! loads -/
theorem os_load_agg {t : TypeId} {x : Operand} {a : Addr} {cs : List Value} (hx : ev e x = some (.pointer (some a))) (ht : aggB P t cs.length = true) (hc : Cells I L a cs) :
    OS P n ⟨d, .load t x, ty, pos, af, g⟩ e I L (.agg cs.toArray) :=
  os_runm fun J M b w hJ hM hb hw => by
    obtain ⟨dd, i, hu, hd, hi, hs⟩ := aggB_spec ht
    have hl := run_loadCells_list (P := P) w a cs (hc.cell hJ hM hw)
    have hagg : (isAgg t).run P w = .ok true w := by
      unfold isAgg
      rw [Sem.run_bind, run_underlying hu w]
      cases dd <;> simp_all
    simp [execOp, hb.eval hx, Instr.loadAt, Instr.sureAddr, loadVar, Sem.run_bind, hagg, sizeOf, typeInfo, hi, hs, hl]

theorem os_load_one {t : TypeId} {x : Operand} {a : Addr} {v : Value} (hx : ev e x = some (.pointer (some a))) (ht : oneB P t = true) (hc : Cells I L a [v]) :
    OS P n ⟨d, .load t x, ty, pos, af, g⟩ e I L v :=
  os_runm fun J M b w hJ hM hb hw => by
    obtain ⟨dd, i, hu, hd, hi, hs⟩ := oneB_spec ht
    have hcell := hc.cell hJ hM hw 0 v rfl
    have h0 : a.add 0 = a := by simp [Addr.add]
    rw [h0] at hcell
    have hagg : (isAgg t).run P w = .ok false w := by
      unfold isAgg
      rw [Sem.run_bind, run_underlying hu w]
      cases dd <;> simp_all
    simp [execOp, hb.eval hx, Instr.loadAt, Instr.sureAddr, loadVar, Sem.run_bind, hagg, hcell]

/-! addresses -/
theorem os_field {t : TypeId} {x : Operand} {b o k off : Nat} (hx : ev e x = some (.pointer (some ⟨b, o, none⟩))) (ht : fieldB P t k off = true) :
    OS P n ⟨d, .fieldAddr t x k, ty, pos, af, g⟩ e I L (.pointer (some ⟨b, o + off, none⟩)) :=
  os_run fun a w ha => by
    obtain ⟨fs, f, i, hu, hf, ho, hi, hs⟩ := fieldB_spec ht
    simp [execOp, ha.eval hx, Instr.fieldAt, Instr.sureAddr, Sem.run_bind, run_underlying hu, hf, fieldPlace, sizeOf, typeInfo, hi, hs, ho, addr_add]

def slA : Value → Addr
  | .slice (some a) _ _ => a
  | _ => ⟨0, 0, none⟩
def slN : Value → Nat
  | .slice _ n _ => n
  | _ => 0
def slC : Value → Nat
  | .slice _ _ c => c
  | _ => 0

theorem os_index {t : TypeId} {x y : Operand} {s : Value} {k : IntKind} {i : Int} {el sz bytes : Nat} (hx : ev e x = some s) (hs : ∃ a n c, s = .slice (some a) n c) (hy : ev e y = some (.int k i))
    (ht : sliceB P t el sz bytes = true) (h0 : 0 ≤ i) (h1 : i < (slN s : Nat)) :
    OS P n ⟨d, .indexAddr t x y, ty, pos, af, g⟩ e I L (.pointer (some ((slA s).add (i.toNat * sz)))) :=
  os_run fun a w ha => by
    obtain ⟨b, m, c, rfl⟩ := hs
    obtain ⟨inf, hu, hi, hsz, _⟩ := sliceB_spec ht
    simp only [slN] at h1
    simp [execOp, ha.eval hx, ha.eval hy, Instr.indexAt, asIntOf, Sem.run_bind, run_underlying hu, h0, h1, sizeOf, typeInfo, hi, hsz, slA]

theorem os_len_slice {t : TypeId} {x : Operand} {s : Value} {el sz bytes : Nat} (hx : ev e x = some s) (hs : ∃ a n c, s = .slice a n c) (ht : sliceB P t el sz bytes = true) :
    OS P n ⟨d, .call ⟨.builtin .len, #[x], #[t]⟩, ty, pos, af, g⟩ e I L (.int .i64 (slN s : Nat)) :=
  os_run fun a w ha => by
    obtain ⟨b, m, c, rfl⟩ := hs
    obtain ⟨inf, hu, hi, hsz, _⟩ := sliceB_spec ht
    simp [execOp, resolve, ha.eval hx, invoke, builtin, Builtin.len_, Sem.run_bind, run_underlying hu, slN, goInt]

theorem os_cap_slice {t : TypeId} {x : Operand} {s : Value} {el sz bytes : Nat} (hx : ev e x = some s) (hs : ∃ a n c, s = .slice a n c) (ht : sliceB P t el sz bytes = true) :
    OS P n ⟨d, .call ⟨.builtin .cap, #[x], #[t]⟩, ty, pos, af, g⟩ e I L (.int .i64 (slC s : Nat)) :=
  os_run fun a w ha => by
    obtain ⟨b, m, c, rfl⟩ := hs
    obtain ⟨inf, hu, hi, hsz, _⟩ := sliceB_spec ht
    simp [execOp, resolve, ha.eval hx, invoke, builtin, Builtin.cap_, Sem.run_bind, run_underlying hu, slC, goInt]

/-- A part of a slice: the value. -/
def subS (s : Value) (sz l h : Nat) : Value :=
  match s with
  | .slice a _ c => .slice (if c = l then a else a.map (·.add (l * sz))) (h - l) (c - l)
  | v => v

theorem os_slice {t : TypeId} {x : Operand} {lo hi : Option Operand} {s : Value} {k k' : IntKind} {l h : Nat} {el sz bytes : Nat} (hx : ev e x = some s) (hs : ∃ a n c, s = .slice a n c) (ht : sliceB P t el sz bytes = true)
    (hlo : (match lo with | some y => ev e y = some (.int k (l : Int)) | none => l = 0)) (hhi : (match hi with | some y => ev e y = some (.int k' (h : Int)) | none => h = slN s))
    (hlh : l ≤ h) (hhc : h ≤ slC s) : OS P n ⟨d, .slice t x lo hi none, ty, pos, af, g⟩ e I L (subS s sz l h) :=
  os_run fun a w ha => by
    obtain ⟨b, m, c, rfl⟩ := hs
    obtain ⟨inf, hu, hinf, hsz, _⟩ := sliceB_spec ht
    simp only [slN, slC] at hhi hhc
    have hlh' : (l : Int) ≤ (h : Int) := by omega
    have hhc' : (h : Int) ≤ (c : Int) := by omega
    cases lo with
    | none =>
      cases hi with
      | none =>
        simp only at hlo hhi
        subst hlo; subst hhi
        simp [execOp, ha.eval hx, Instr.sliceAt, Instr.slice, Instr.sliceBounds, Sem.run_bind, run_underlying hu, sizeOf, typeInfo, hinf, hsz, subS]
      | some y =>
        simp only at hlo hhi
        subst hlo
        simp [execOp, ha.eval hx, ha.eval hhi, Instr.sliceAt, Instr.slice, Instr.sliceBounds, Instr.sliceBound, asIntOf, Sem.run_bind, run_underlying hu, sizeOf, typeInfo, hinf, hsz, subS, hhc]
    | some z =>
      cases hi with
      | none =>
        simp only at hlo hhi
        subst hhi
        simp [execOp, ha.eval hx, ha.eval hlo, Instr.sliceAt, Instr.slice, Instr.sliceBounds, Instr.sliceBound, asIntOf, Sem.run_bind, run_underlying hu, sizeOf, typeInfo, hinf, hsz, subS, hlh]
      | some y =>
        simp only at hlo hhi
        simp [execOp, ha.eval hx, ha.eval hlo, ha.eval hhi, Instr.sliceAt, Instr.slice, Instr.sliceBounds, Instr.sliceBound, asIntOf, Sem.run_bind, run_underlying hu, sizeOf, typeInfo, hinf, hsz, subS, hlh, hhc]

/-! new blocks -/
theorem oa_box {t : TypeId} {x : Operand} {v : Value} (hx : ev e x = some v) : OA P n ⟨d, .box t x, ty, pos, af, g⟩ e (fun b => .pointer (some ⟨b, 0, none⟩)) (.cells v.cells t) :=
  fun a w ha => by simp [execOp, ha.eval hx, Instr.box, newVar, newRow, newObj, Sem.run_bind]; rfl

theorem oa_alloc {t : TypeId} {z : Value} (hz : (P.info? t).bind (·.zero) = some z) : OA P n ⟨d, .alloc t, ty, pos, af, g⟩ e (fun b => .pointer (some ⟨b, 0, none⟩)) (.cells z.cells t) :=
  fun a w ha => by
    cases hi : P.info? t with
    | none => simp [hi] at hz
    | some i =>
      have hz' : i.zero = some z := by simpa [hi] using hz
      simp [execOp, Instr.alloc, zeroValue, typeInfo, hi, hz', newVar, newRow, newObj, Sem.run_bind]; rfl

theorem eval_list {a : Act} (ha : Sat n e a) : ∀ {l : List Operand} {vs : List Value}, l.map (ev e) = vs.map some → l.map a.eval = vs
  | [], [], _ => rfl
  | [], _ :: _, h => by simp at h
  | _ :: _, [], h => by simp at h
  | x :: r, u :: vs, h => by
    simp only [List.map_cons, List.cons.injEq] at h ⊢
    exact ⟨ha.eval h.1, eval_list ha h.2⟩
theorem eval_parts {a : Act} (ha : Sat n e a) : ∀ {l : List (Nat × Operand)} {vs : List (Nat × Value)}, (l.map fun p => (p.1, ev e p.2)) = (vs.map fun p => (p.1, some p.2)) → (l.map fun p => (p.1, a.eval p.2)) = vs
  | [], [], _ => rfl
  | [], _ :: _, h => by simp at h
  | _ :: _, [], h => by simp at h
  | x :: r, u :: vs, h => by
    simp only [List.map_cons, List.cons.injEq, Prod.mk.injEq] at h ⊢
    exact ⟨by rw [h.1.1, ha.eval h.1.2], eval_parts ha h.2⟩

theorem os_makeFunc {fn : Fn} {fs cs : Array Operand} {us vs : List Value} (h1 : fs.toList.map (ev e) = us.map some) (h2 : cs.toList.map (ev e) = vs.map some) :
    OS P n ⟨d, .makeFunc fn fs cs, ty, pos, af, g⟩ e I L (.func fn us.toArray vs.toArray) :=
  os_run fun a w ha => by
    have k1 : fs.map a.eval = us.toArray := Array.ext' (by simpa using eval_list ha h1)
    have k2 : cs.map a.eval = vs.toArray := Array.ext' (by simpa using eval_list ha h2)
    simp [execOp, Instr.makeFunc, k1, k2]

/-- A struct put together: the kernel lays the cells. -/
theorem os_build {t : TypeId} {ps : Array (Nat × Operand)} {vs : List (Nat × Value)} {cs : List Value} (h : (ps.toList.map fun p => (p.1, ev e p.2)) = vs.map fun p => (p.1, some p.2))
    (hb : ∀ w, (Instr.build t vs.toArray).run P w = .ok (.agg cs.toArray) w) : OS P n ⟨d, .build t ps, ty, pos, af, g⟩ e I L (.agg cs.toArray) :=
  os_run fun a w ha => by
    have key : ps.map (fun (p : Nat × Operand) => (p.1, a.eval p.2)) = vs.toArray := Array.ext' (by simpa using eval_parts ha h)
    have := hb w
    simp only [execOp]
    rw [show (ps.map fun (x : Nat × Operand) => match x with | (i, x) => (i, a.eval x)) = vs.toArray from key]
    simp [this]

/-- A slice literal: a new block. -/
theorem oa_buildSlice {t el sz bytes len : Nat} {ps : Array (Nat × Operand)} {vs : List (Nat × Value)} {cs : List Value} (ht : sliceB P t el sz bytes = true)
    (h : (ps.toList.map fun p => (p.1, ev e p.2)) = vs.map fun p => (p.1, some p.2)) (hsmall : Nat.ble (len * sz) 16777216 = true)
    (hb : ∀ w, (Instr.buildSlice t len vs.toArray).run P w = .ok (.slice (some ⟨w.heap.size, 0, none⟩) len len) { w with heap := w.heap.push (.cells cs.toArray el) }) :
    OA P n ⟨d, .buildSlice t len ps, ty, pos, af, g⟩ e (fun b => .slice (some ⟨b, 0, none⟩) len len) (.cells cs.toArray el) :=
  fun a w ha => by
    have key : ps.map (fun (p : Nat × Operand) => (p.1, a.eval p.2)) = vs.toArray := Array.ext' (by simpa using eval_parts ha h)
    have := hb w
    simp only [execOp]
    rw [show (ps.map fun (x : Nat × Operand) => match x with | (i, x) => (i, a.eval x)) = vs.toArray from key]
    simp [this]

/-! stores -/
inductive SegUpd (b : Nat) (o o' : Obj) : Seg → Seg → Prop
  | head {S : Seg} : SegUpd b o o' ((b, o) :: S) ((b, o') :: S)
  | tail {x : Blk} {S S' : Seg} : SegUpd b o o' S S' → SegUpd b o o' (x :: S) (x :: S')
inductive Upd (b : Nat) (o o' : Obj) : List Seg → List Seg → Prop
  | head {S S' : Seg} {L : List Seg} : SegUpd b o o' S S' → Upd b o o' (S :: L) (S' :: L)
  | tail {S : Seg} {L L' : List Seg} : Upd b o o' L L' → Upd b o o' (S :: L) (S :: L')

theorem SegUpd.split {b : Nat} {o o' : Obj} {S S' : Seg} (h : SegUpd b o o' S S') : ∃ A B, S = A ++ (b, o) :: B ∧ S' = A ++ (b, o') :: B := by
  induction h with
  | head => exact ⟨[], _, rfl, rfl⟩
  | tail _ ih => obtain ⟨A, B, h1, h2⟩ := ih; exact ⟨_ :: A, B, by rw [h1]; rfl, by rw [h2]; rfl⟩
theorem Upd.split {b : Nat} {o o' : Obj} {L L' : List Seg} (h : Upd b o o' L L') : ∃ A B, L.flatten = A ++ (b, o) :: B ∧ L'.flatten = A ++ (b, o') :: B := by
  induction h with
  | head h => obtain ⟨A, B, h1, h2⟩ := h.split; exact ⟨A, B ++ _, by rw [List.flatten_cons, h1]; simp; rfl, by rw [List.flatten_cons, h2]; simp⟩
  | @tail S _ _ _ ih => obtain ⟨A, B, h1, h2⟩ := ih; exact ⟨S ++ A, B, by simp [h1], by simp [h2]⟩

theorem St.flat {I : Gh} {L M : List Seg} {w : World} (h : St I L w) (hf : L.flatten = M.flatten) : St I M w :=
  ⟨h.imm, hf ▸ h.own, hf ▸ h.sep, hf ▸ h.nodup, h.os, h.tape, h.output⟩
theorem St.upd {I : Gh} {L L' : List Seg} {b : Nat} {o o' : Obj} {w w' : World} (h : St I L w) (hu : Upd b o o' L L')
    (hw : w'.heap[b]? = some o') (hold : ∀ k, k ≠ b → w'.heap[k]? = w.heap[k]?) (hos : w'.os = w.os) (ht : w'.tape = w.tape) (hout : w'.output = w.output) : St I L' w' := by
  obtain ⟨A, B, h1, h2⟩ := hu.split
  have := St.set (A := A) (B := B) (L := []) (h.flat (M := [A ++ (b, o) :: B]) (by simp [h1])) hw hold hos ht hout
  exact this.flat (by simp [h2])
theorem Upd.mem {b : Nat} {o o' : Obj} {L L' : List Seg} (h : Upd b o o' L L') : (b, o) ∈ L.flatten := by
  obtain ⟨A, B, h1, _⟩ := h.split; simp [h1]

theorem Upd.front {b : Nat} {o o' : Obj} {L L' : List Seg} (h : Upd b o o' L L') : ∀ E : List Seg, Upd b o o' (E ++ L) (E ++ L')
  | [] => h
  | _ :: E => .tail (h.front E)

/-- Cells laid over others. -/
def ovr (c : List Value) (off : Nat) (vs : List Value) : List Value := c.take off ++ vs ++ c.drop (off + vs.length)

theorem ox_store {t : TypeId} {x y : Operand} {b off : Nat} {v : Value} {c : Array Value} {T : TypeId} {L' : List Seg} (hx : ev e x = some (.pointer (some ⟨b, off, none⟩))) (hy : ev e y = some v)
    (hsz : (P.info? t).map (·.size) = some v.cells.size) (hone : v.cells.toList.all (·.oneCell') = true) (hfit : Nat.ble (off + v.cells.size) c.size = true)
    (hu : Upd b (.cells c T) (.cells (ovr c.toList off v.cells.toList).toArray T) L L') :
    OX P n ⟨d, .store t x y, ty, pos, af, g⟩ e I L fun _ M _ => M = L' :=
  fun J E a w _ ha hw => by
    have hh : w.heap[b]? = some (.cells c T) := hw.own _ (by rw [List.flatten_append]; exact List.mem_append_right _ hu.mem)
    have hst := run_storeCells_at P b off T v.cells.toList 0 c w hh (by have := Nat.le_of_ble_eq_true hfit; simpa using this) (fun u hv => List.all_eq_true.1 hone u hv)
    simp only [Nat.add_zero] at hst
    refine yield_skip (w' := w.setRow b (ovr c.toList off v.cells.toList).toArray) ?_ ?_
    · cases hi : P.info? t with
      | none => simp [hi] at hsz
      | some i =>
        have hs : i.size = v.cells.size := by simpa [hi] using hsz
        simp only [execOp, ha.eval hx, ha.eval hy]
        simp [Instr.storeAt, Instr.sureAddr, storeVar, Sem.run_bind, sizeOf, typeInfo, hi, hs, hst, ovr]
    · refine ⟨J, L', .refl J, hw.upd (hu.front E) (setRow_heap w b c _ T _ hh) (fun k hk => setRow_other w b k _ hk) rfl rfl rfl, rfl⟩

/-! calls -/
def argsE (e : Env) (l : List Operand) (vs : List Value) : Prop := l.map (ev e) = vs.map some
theorem argsE_eval {a : Act} (ha : Sat n e a) {xs : Array Operand} {vs : List Value} (h : argsE e xs.toList vs) : xs.map a.eval = vs.toArray := by
  apply Array.ext'
  simp only [Array.toList_map]
  unfold argsE at h
  generalize xs.toList = l at h
  induction l generalizing vs with
  | nil => cases vs <;> simp_all
  | cons x r ih =>
    cases vs with
    | nil => simp at h
    | cons u vs =>
      simp only [List.map_cons, List.cons.injEq] at h ⊢
      exact ⟨ha.eval h.1, ih h.2⟩

/-- The function has a body that is run. -/
def bodyB (P : Program) (f : FuncId) : Prop := ∀ (args : Array Value) (w : World), (callFunc f args).run P w = .ok (.enter f args) w

theorem run_call {a : Act} {w : World} {f : FuncId} {xs : Array Operand} {ts : Array TypeId} {vs : List Value} (ha : Sat n e a) (hb : bodyB P f) (hv : argsE e xs.toList vs) :
    (execOp a.eval ⟨d, .call ⟨.value (.func f), xs, ts⟩, ty, pos, af, g⟩).run P w = .ok (.enter f vs.toArray) w := by
  have h1 := argsE_eval ha hv
  have h2 := hb vs.toArray w
  simp only [execOp, resolve, h1]
  simp [Act.eval, Deferred.ofValue, invoke, Sem.run_bind, h2, Result.andThen]

theorem ox_call {f : FuncId} {xs : Array Operand} {ts : Array TypeId} {vs : List Value} {post : Gh → List Seg → Value → Prop} (hb : bodyB P f) (hv : argsE e xs.toList vs)
    (h : ∀ J E, I.le J → FC P f vs.toArray J (E ++ L) fun K M v => J.le K ∧ ∃ M', M = E ++ M' ∧ post K M' v) : OX P n ⟨d, .call ⟨.value (.func f), xs, ts⟩, ty, pos, af, g⟩ e I L post :=
  fun J E a w hJ ha hw => yield_enter (run_call ha hb hv) ((h J E hJ w hw).mono fun en w' ⟨K, M, v, he, hs, hk, M', hm, hp⟩ => ⟨v, he, K, M', hk, hm ▸ hs, hp⟩)

theorem og_call {f : FuncId} {xs : Array Operand} {ts : Array TypeId} {vs : List Value} {post : Gh → Value → Prop} (hb : bodyB P f) (hv : argsE e xs.toList vs)
    (h : PC P f vs.toArray I L post) : OG P n ⟨d, .call ⟨.value (.func f), xs, ts⟩, ty, pos, af, g⟩ e I L post :=
  fun J M a w hJ hM ha hw => yield_enter (run_call ha hb hv) ((h J M hJ hM w hw).mono fun en w' ⟨K, M', v, he, hs, hk, hm, hp⟩ => ⟨v, he, K, hk, hm ▸ hs, hp⟩)

theorem os_call {f : FuncId} {xs : Array Operand} {ts : Array TypeId} {vs : List Value} {v : Value} (hb : bodyB P f) (hv : argsE e xs.toList vs)
    (h : PC P f vs.toArray I L fun _ u => u = v) : OS P n ⟨d, .call ⟨.value (.func f), xs, ts⟩, ty, pos, af, g⟩ e I L v :=
  fun J M a w hJ hM ha hw => yield_enter (run_call ha hb hv) ((h J M hJ hM w hw).mono fun en w' ⟨K, M', u, he, hs, hk, hm, hp⟩ => ⟨u, he, hp, (hm ▸ hs).less hk⟩)

/-! results -/
theorem ret_tmp {fn : Func} {post : Gh → List Seg → Value → Prop} {t : Tmp} {v : Value} (hr : fn.results = #[.tmp t]) (hv : get e t = some v) (hp : ∃ K M, (∀ w, St I L w → St K M w) ∧ post K M v) {ex : Exit}
    (hex : ex = .ret ∨ ex = .normal) : EQ n (bodyPost P fn (Ret post) ex) e I L := by
  intro a w ha hw
  obtain ⟨K, M, hs, hp⟩ := hp
  have h1 := ha.tmps t v hv
  have : bodyPost P fn (Ret post) .ret a w := ⟨ha.defers, v, by rw [results_tmp hr]; simp [h1], K, M, v, rfl, hs w hw, hp⟩
  rcases hex with rfl | rfl <;> exact this
theorem ret_none {fn : Func} {post : Gh → List Seg → Value → Prop} (hr : fn.results = #[]) (hp : ∃ K M, (∀ w, St I L w → St K M w) ∧ post K M (.tuple #[])) {ex : Exit}
    (hex : ex = .ret ∨ ex = .normal) : EQ n (bodyPost P fn (Ret post) ex) e I L := by
  intro a w ha hw
  obtain ⟨K, M, hs, hp⟩ := hp
  have : bodyPost P fn (Ret post) .ret a w := ⟨ha.defers, .tuple #[], results_none hr _ _ _, K, M, _, rfl, hs w hw, hp⟩
  rcases hex with rfl | rfl <;> exact this

/-- One result variable: its value. -/
def resVar (P : Program) (e : Env) (I : Gh) (L : List Seg) : ResultVar → Value → Prop
  | .tmp t, v => get e t = some v
  | .cell t T, v => ∃ b, get e t = some (.pointer (some ⟨b, 0, none⟩)) ∧ ((aggB P T (v.cells.size) = true ∧ v = .agg v.cells ∧ Cells I L ⟨b, 0, none⟩ v.cells.toList) ∨ (oneB P T = true ∧ Cells I L ⟨b, 0, none⟩ [v]))

theorem run_loadVar_agg {w : World} {t : TypeId} {a : Addr} {cs : List Value} (ht : aggB P t cs.length = true) (hc : Cells I L a cs) (hw : St I L w) : (loadVar t a).run P w = .ok (.agg cs.toArray) w := by
  obtain ⟨dd, i, hu, hd, hi, hs⟩ := aggB_spec ht
  have hl := run_loadCells_list (P := P) w a cs (hc.cell (.refl I) (.refl L) hw)
  have hagg : (isAgg t).run P w = .ok true w := by
    unfold isAgg
    rw [Sem.run_bind, run_underlying hu w]
    cases dd <;> simp_all
  simp [loadVar, Sem.run_bind, hagg, sizeOf, typeInfo, hi, hs, hl]
theorem run_loadVar_one {w : World} {t : TypeId} {a : Addr} {v : Value} (ht : oneB P t = true) (hc : Cells I L a [v]) (hw : St I L w) : (loadVar t a).run P w = .ok v w := by
  obtain ⟨dd, i, hu, hd, hi, hs⟩ := oneB_spec ht
  have hcell := hc.cell (.refl I) (.refl L) hw 0 v rfl
  have h0 : a.add 0 = a := by simp [Addr.add]
  rw [h0] at hcell
  have hagg : (isAgg t).run P w = .ok false w := by
    unfold isAgg
    rw [Sem.run_bind, run_underlying hu w]
    cases dd <;> simp_all
  simp [loadVar, Sem.run_bind, hagg, hcell]

def resRun (a : Act) : ResultVar → Sem Value
  | .tmp t => pure (a.tmps.getD t undef)
  | .cell b t => do loadVar t (← asAddr (a.tmps.getD b undef))
theorem results_eq (fn : Func) (a : Act) : results fn a.tmps = (do let vs ← fn.results.mapM (resRun a); pure (if h : vs.size = 1 then vs[0] else .tuple vs)) := by
  unfold results
  congr
theorem resVar_run {r : ResultVar} {v : Value} (h : resVar P e I L r v) {a : Act} {w : World} (ha : Sat n e a) (hw : St I L w) :
    (resRun a r).run P w = .ok v w := by
  cases r with
  | tmp t => have := ha.tmps t v h; simp [resRun, this]
  | cell t T =>
    obtain ⟨b, hb, h⟩ := h
    have := ha.tmps t _ hb
    rcases h with ⟨h1, h2, h3⟩ | ⟨h1, h2⟩
    · have hr := run_loadVar_agg (P := P) (t := T) (by simpa using h1) h3 hw
      simp [resRun, this, asAddr, Sem.run_bind, hr]
      rw [h2]; simp [Value.cells]
    · have hr := run_loadVar_one (P := P) (t := T) h1 h2 hw
      simp [resRun, this, asAddr, Sem.run_bind, hr]

theorem ret_1 {fn : Func} {post : Gh → List Seg → Value → Prop} {r : ResultVar} {v : Value} (hr : fn.results = #[r]) (h1 : resVar P e I L r v) (hp : ∃ K M, (∀ w, St I L w → St K M w) ∧ post K M v) {ex : Exit}
    (hex : ex = .ret ∨ ex = .normal) : EQ n (bodyPost P fn (Ret post) ex) e I L := by
  intro a w ha hw
  obtain ⟨K, M, hs, hp⟩ := hp
  have g1 := resVar_run h1 ha hw
  have : bodyPost P fn (Ret post) .ret a w := ⟨ha.defers, v, by rw [results_eq]; simp [hr, Sem.run_bind, g1], K, M, v, rfl, hs w hw, hp⟩
  rcases hex with rfl | rfl <;> exact this
theorem ret_2 {fn : Func} {post : Gh → List Seg → Value → Prop} {r r' : ResultVar} {v v' : Value} (hr : fn.results = #[r, r']) (h1 : resVar P e I L r v) (h2 : resVar P e I L r' v')
    (hp : ∃ K M, (∀ w, St I L w → St K M w) ∧ post K M (.tuple #[v, v'])) {ex : Exit} (hex : ex = .ret ∨ ex = .normal) : EQ n (bodyPost P fn (Ret post) ex) e I L := by
  intro a w ha hw
  obtain ⟨K, M, hs, hp⟩ := hp
  have g1 := resVar_run h1 ha hw
  have g2 := resVar_run h2 ha hw
  have : bodyPost P fn (Ret post) .ret a w := ⟨ha.defers, .tuple #[v, v'], by rw [results_eq]; simp [hr, Sem.run_bind, g1, g2], K, M, _, rfl, hs w hw, hp⟩
  rcases hex with rfl | rfl <;> exact this
theorem ret_3 {fn : Func} {post : Gh → List Seg → Value → Prop} {r r' r'' : ResultVar} {v v' v'' : Value} (hr : fn.results = #[r, r', r'']) (h1 : resVar P e I L r v) (h2 : resVar P e I L r' v') (h3 : resVar P e I L r'' v'')
    (hp : ∃ K M, (∀ w, St I L w → St K M w) ∧ post K M (.tuple #[v, v', v''])) {ex : Exit} (hex : ex = .ret ∨ ex = .normal) : EQ n (bodyPost P fn (Ret post) ex) e I L := by
  intro a w ha hw
  obtain ⟨K, M, hs, hp⟩ := hp
  have g1 := resVar_run h1 ha hw
  have g2 := resVar_run h2 ha hw
  have g3 := resVar_run h3 ha hw
  have : bodyPost P fn (Ret post) .ret a w := ⟨ha.defers, .tuple #[v, v', v''], by rw [results_eq]; simp [hr, Sem.run_bind, g1, g2, g3], K, M, _, rfl, hs w hw, hp⟩
  rcases hex with rfl | rfl <;> exact this
end
end Go.Gl
