/- The logic 'Gl', part 6: bytes; functions without a body; closures; small instructions. -/
import Derived.Test.YtlhibbjnhdcffaaGl5
import Derived.Lib.Bytealg
import Derived.Laws.Externs
import Derived.Laws.Small
import Derived.Lib.SliceRun
namespace Go.Gl
open Go

/-- Bytes as elements of a row. -/
def bts (l : List UInt8) : List (List Value) := l.map fun b => [.int .u8 (b.toNat : Int)]
theorem bts_length (l : List UInt8) : (bts l).length = l.length := by simp [bts]
theorem bts_get {l : List UInt8} {i : Nat} {b : UInt8} (h : l[i]? = some b) : (bts l)[i]? = some [.int .u8 (b.toNat : Int)] := by simp [bts, h]
theorem bts_extract (l : List UInt8) (i j : Nat) : (bts l).extract i j = bts (l.extract i j) := by simp [bts, List.map_take, List.map_drop]
theorem bts_append (l m : List UInt8) : bts (l ++ m) = bts l ++ bts m := by simp [bts]
theorem bts_one (l : List UInt8) : ∀ x ∈ (bts l).flatten, x.oneCell' = true := by
  intro x hx
  simp only [bts, List.mem_flatten, List.mem_map] at hx
  obtain ⟨y, ⟨b, _, rfl⟩, hy⟩ := hx
  simp only [List.mem_singleton] at hy
  subst hy; rfl

abbrev Bytes (I : Gh) (L : List Seg) (a : Option Addr) (n c : Nat) (l : List UInt8) : Prop := Row I L a n c 1 (bts l)

theorem Bytes.len {I : Gh} {L : List Seg} {a : Option Addr} {n c : Nat} {l : List UInt8} (h : Bytes I L a n c l) : n = l.length := by rw [h.1, bts_length]
theorem Bytes.cell {I J : Gh} {L M : List Seg} {a : Option Addr} {n c : Nat} {l : List UInt8} (h : Bytes I L a n c l) {i : Nat} {b : UInt8} (hb : l[i]? = some b) (hI : I.le J) (hL : Incl L M) : Cells J M ((opA a).add (i * 1)) [.int .u8 (b.toNat : Int)] := h.cells (bts_get hb) hI hL
theorem Bytes.sub {I : Gh} {L : List Seg} {a : Option Addr} {n c : Nat} {l : List UInt8} (h : Bytes I L a n c l) {i j : Nat} (hl : i ≤ j) (hu : j ≤ n) : Bytes I L (if c = i then a else a.map (·.add (i * 1))) (j - i) (c - i) (l.extract i j) := by
  have := Row.sub h (by decide) hl hu
  rwa [bts_extract] at this

theorem run_loadBytes {P : Program} {w : World} : ∀ (l : List UInt8) (a : Addr) (acc : ByteArray), (∀ (j : Nat) (b : UInt8), l[j]? = some b → w.cell? (a.add j) = some (.int .u8 (b.toNat : Int))) → (l ≠ [] → a.spot = none) →
    (Extern.Bytes.loadBytes a l.length acc).run P w = .ok ⟨acc.data ++ l.toArray⟩ w
  | [], a, acc, _, _ => by simp [Extern.Bytes.loadBytes]
  | b :: r, a, acc, h, hs => by
    have h0 := h 0 b rfl
    simp only [Addr.add, if_true] at h0
    have hsp := hs (by simp)
    have ih := run_loadBytes (P := P) (w := w) r (a.add 1) (acc.push b) (fun j c hj => by
      rw [add_add _ hsp, Nat.add_comm]; exact h (j + 1) c (by simpa using hj)) (fun _ => by rw [addr_add _ hsp])
    have hb : (((b.toNat : Int).toNat).toUInt8) = b := by simp
    simp only [List.length_cons, Extern.Bytes.loadBytes, Sem.run_bind, run_load, h0, Result.andThen]
    rw [hb, ih]
    simp only [ByteArray.push]
    congr 2
    simp

theorem Bytes.run {P : Program} {I J : Gh} {L M : List Seg} {w : World} {a : Option Addr} {n c : Nat} {l : List UInt8} (h : Bytes I L a n c l) (hI : I.le J) (hL : Incl L M) (hw : St J M w) : (Extern.Bytes.bytesOf (.slice a n c)).run P w = .ok ⟨l.toArray⟩ w := by
  have hn := Bytes.len h
  cases a with
  | none =>
    have h1 := h.nil rfl
    have h2 := h.le
    have : l = [] := List.eq_nil_of_length_eq_zero (by omega)
    subst this
    simp [Extern.Bytes.bytesOf]; rfl
  | some a =>
    have hc : ∀ (j : Nat) (b : UInt8), l[j]? = some b → w.cell? (a.add j) = some (.int .u8 (b.toNat : Int)) := fun j b hj => by
      have h1 := (Bytes.cell h hj (.refl I) (.refl L)).cell hI hL hw 0 _ rfl
      simpa [opA, Addr.add] using h1
    have := run_loadBytes (P := P) (w := w) l a .empty hc (fun hne => by
      have := h.spot (by decide) (by
        have : 0 < l.length := List.length_pos_iff.2 hne
        omega)
      simpa [opA] using this)
    simp only [Extern.Bytes.bytesOf]
    rw [hn, this]
    simp

section
variable {P : Program} {n : Nat} {e : Env} {I : Gh} {L : List Seg} {d : Option Tmp} {ty : TypeId} {pos : String} {af : Array Edge} {g : Option (Nat × Bool)}

/-- A function that has no body: the model's own word. -/
theorem os_ext {f : FuncId} {xs : Array Operand} {ts : Array TypeId} {vs : List Value} {v : Value} (hv : argsE e xs.toList vs)
    (h : ∀ J M w, I.le J → Incl L M → St J M w → (callFunc f vs.toArray).run P w = .ok (.value v) w) : OS P n ⟨d, .call ⟨.value (.func f), xs, ts⟩, ty, pos, af, g⟩ e I L v :=
  os_runm fun J M a w hJ hM ha hw => by
    have h1 := argsE_eval ha hv
    have h2 := h J M w hJ hM hw
    simp only [execOp, resolve, h1]
    simp [Act.eval, Deferred.ofValue, invoke, Sem.run_bind, h2, Result.andThen]

theorem run_bytealg_Compare {f : FuncId} {fn : Func} (hf : P.funcs[f]? = some fn) (hname : (fn.name == "runtime.NumGoroutine") = false) (hb : fn.body.isNone = true) (hn : Extern.findNext fn = none)
    (he : Extern.find fn = some Extern.BytealgCompare.compare) {I J : Gh} {L M : List Seg} {w : World} {a a' : Option Addr} {m c m' c' : Nat} {l l' : List UInt8} (h1 : Bytes I L a m c l) (h2 : Bytes I L a' m' c' l') (hI : I.le J) (hL : Incl L M) (hw : St J M w) :
    (callFunc f #[.slice a m c, .slice a' m' c']).run P w = .ok (.value (.int .i64 (Lib.compareBytes l l'))) w := by
  rw [run_callFunc_extern hf hname hb hn he]
  have : (Extern.BytealgCompare.compare #[.slice a m c, .slice a' m' c']).run P w = .ok (.int .i64 (Lib.compareBytes l l')) w := by
    change Sem.run P (do pure (goInt (Extern.BytealgCompare.cmp (← Extern.Bytes.bytesOf (.slice a m c)) (← Extern.Bytes.bytesOf (.slice a' m' c'))))) w = _
    simp only [Sem.run_bind, Bytes.run h1 hI hL hw, Bytes.run h2 hI hL hw, Result.andThen, Sem.run_pure, Lib.cmp_eq]
    rfl
  rw [this]; rfl

/-- A slice against nil. -/
theorem os_eql_nil {t u el sz bytes : TypeId} {x y : Operand} {a : Option Addr} {m c m' c' : Nat} (hx : ev e x = some (.slice a m c)) (hy : ev e y = some (.slice none m' c')) (ht : sliceB P t el sz bytes = true) :
    OS P n ⟨d, .binOp .eql t x y u, ty, pos, af, g⟩ e I L (.bool a.isNone) :=
  os_run fun b w hb => by
    obtain ⟨i, hu, _⟩ := sliceB_spec ht
    simp only [execOp, hb.eval hx, hb.eval hy]
    have h1 : (eqGuard .eql t x y (.slice a m c) (.slice none m' c')).run P w = .ok () w := by simp [eqGuard]
    simp only [Sem.run_bind, h1, Result.andThen_ok, Lib.run_eql_slice_nil w t el a m c m' c' hu]
    rfl

/-- Calling a closure. -/
theorem run_callv {a : Act} {w : World} {f : FuncId} {x : Operand} {xs : Array Operand} {ts : Array TypeId} {fs cs vs : List Value} (ha : Sat n e a) (hx : ev e x = some (.func (.func f) fs.toArray cs.toArray)) (hb : bodyB P f) (hv : argsE e xs.toList vs) :
    (execOp a.eval ⟨d, .call ⟨.value x, xs, ts⟩, ty, pos, af, g⟩).run P w = .ok (.enter f (fs ++ vs ++ cs).toArray) w := by
  have h1 := argsE_eval ha hv
  have h2 := hb (fs ++ vs ++ cs).toArray w
  simp only [execOp, resolve, h1, ha.eval hx]
  simp only [List.append_assoc] at h2
  simp [Deferred.ofValue, invoke, Sem.run_bind, h2, Result.andThen]
theorem os_callv {f : FuncId} {x : Operand} {xs : Array Operand} {ts : Array TypeId} {fs cs vs : List Value} {v : Value} (hx : ev e x = some (.func (.func f) fs.toArray cs.toArray)) (hb : bodyB P f) (hv : argsE e xs.toList vs)
    (h : ∀ J M, I.le J → Incl L M → FC P f (fs ++ vs ++ cs).toArray J M fun K M' u => J.le K ∧ M' = M ∧ u = v) : OS P n ⟨d, .call ⟨.value x, xs, ts⟩, ty, pos, af, g⟩ e I L v :=
  fun J M a w hJ hM ha hw => yield_enter (run_callv ha hx hb hv) ((h J M hJ hM w hw).mono fun _ _ ⟨_, _, u, he, hs, hk, hm, hp⟩ => ⟨u, he, hp, (hm ▸ hs).less hk⟩)

theorem os_conv {s t : TypeId} {x : Operand} {k k' : IntKind} {z : Int} (hx : ev e x = some (.int k z)) (hs : ∃ q, P.underlying s = some (.int q)) (ht : P.underlying t = some (.int k')) :
    OS P n ⟨d, .convert s t x, ty, pos, af, g⟩ e I L (.int k' (k'.wrap z)) :=
  os_run fun b w hb => by
    obtain ⟨q, hq⟩ := hs
    simp [execOp, hb.eval hx, convert, Sem.run_bind, run_underlying hq, run_underlying ht, Conv.intToInt]
theorem os_conv_in {s t : TypeId} {x : Operand} {k k' : IntKind} {z : Int} (hx : ev e x = some (.int k z)) (hs : ∃ q, P.underlying s = some (.int q)) (ht : P.underlying t = some (.int k')) (h : k'.wrap z = z) :
    OS P n ⟨d, .convert s t x, ty, pos, af, g⟩ e I L (.int k' z) := h ▸ os_conv hx hs ht

theorem os_max2 {x y : Operand} {ts : Array TypeId} {k : IntKind} {p q : Int} (hx : ev e x = some (.int k p)) (hy : ev e y = some (.int k q)) :
    OS P n ⟨d, .call ⟨.builtin .max, #[x, y], ts⟩, ty, pos, af, g⟩ e I L (.int k (if q > p then q else p)) :=
  os_run fun b w hb => by
    simp [execOp, resolve, hb.eval hx, hb.eval hy, invoke, builtin, Builtin.max_, Builtin.max2, Sem.run_bind]
theorem os_min2 {x y : Operand} {ts : Array TypeId} {k : IntKind} {p q : Int} (hx : ev e x = some (.int k p)) (hy : ev e y = some (.int k q)) :
    OS P n ⟨d, .call ⟨.builtin .min, #[x, y], ts⟩, ty, pos, af, g⟩ e I L (.int k (if q < p then q else p)) :=
  os_run fun b w hb => by
    simp [execOp, resolve, hb.eval hx, hb.eval hy, invoke, builtin, Builtin.min_, Builtin.min2, Sem.run_bind]

/-- Bools. -/
theorem os_eql_bool {t u : TypeId} {x y : Operand} {p q : Bool} (hx : ev e x = some (.bool p)) (hy : ev e y = some (.bool q)) (ht : P.underlying t = some .bool) :
    OS P n ⟨d, .binOp .eql t x y u, ty, pos, af, g⟩ e I L (.bool (p == q)) :=
  os_run fun b w hb => by
    simp only [execOp, hb.eval hx, hb.eval hy]
    have h1 : (eqGuard .eql t x y (.bool p) (.bool q)).run P w = .ok () w := by simp [eqGuard]
    simp only [Sem.run_bind, h1, Result.andThen_ok, run_eql_bool w t p q ht]
    rfl
theorem os_neq_bool {t u : TypeId} {x y : Operand} {p q : Bool} (hx : ev e x = some (.bool p)) (hy : ev e y = some (.bool q)) (ht : P.underlying t = some .bool) :
    OS P n ⟨d, .binOp .neq t x y u, ty, pos, af, g⟩ e I L (.bool (p != q)) :=
  os_run fun b w hb => by
    simp only [execOp, hb.eval hx, hb.eval hy]
    have h1 : (eqGuard .neq t x y (.bool p) (.bool q)).run P w = .ok () w := by simp [eqGuard]
    simp only [Sem.run_bind, h1, Result.andThen_ok, run_neq_bool w t p q ht]
    rfl
end

/-! slice literals -/
theorem set_fold : ∀ (l : List Value) (k off : Nat) (cs : Array Value), off + k + l.length ≤ cs.size →
    (l.zipIdx k).foldl (fun (cs : Array Value) (p : Value × Nat) => cs.setIfInBounds (off + p.2) p.1) cs = (cs.toList.take (off + k) ++ l ++ cs.toList.drop (off + k + l.length)).toArray
  | [], k, off, cs, _ => by simp
  | v :: r, k, off, cs, h => by
    simp only [List.zipIdx_cons, List.foldl_cons, List.length_cons] at h ⊢
    rw [set_fold r (k + 1) off _ (by simp; omega)]
    have := list_seg_step cs.toList (off + k) v r (by simpa using (by omega : off + k + (r.length + 1) ≤ cs.size))
    simp only [Array.toList_setIfInBounds]
    simpa [Nat.add_assoc] using this

theorem fill_seq {sz : Nat} : ∀ (vs : List Value) (k : Nat) (cs : Array Value), (∀ v ∈ vs, v.cells.size = sz) → (k + vs.length) * sz ≤ cs.size →
    Instr.fill (fun i => some (i * sz, sz)) cs ((vs.zipIdx k).map fun p => (p.2, p.1)) = some (cs.toList.take (k * sz) ++ vs.flatMap (·.cells.toList) ++ cs.toList.drop ((k + vs.length) * sz)).toArray
  | [], k, cs, _, _ => by simp [Instr.fill]
  | v :: r, k, cs, hv, h => by
    have h1 := hv v (by simp)
    have h2 : k * sz + sz ≤ cs.size := by
      have : (k + 1) * sz ≤ (k + (v :: r).length) * sz := Nat.mul_le_mul_right _ (by simp)
      rw [Nat.add_mul] at this; omega
    have hf := set_fold v.cells.toList 0 (k * sz) cs (by rw [Array.length_toList, h1]; omega)
    simp only [Nat.add_zero, Array.length_toList, h1] at hf
    have e1 : (k + 1) * sz = k * sz + sz := by rw [Nat.add_mul]; omega
    have e2 : (k + 1 + r.length) * sz = k * sz + sz + r.length * sz := by rw [Nat.add_mul, e1]
    have e3 : (k + (v :: r).length) * sz = k * sz + sz + r.length * sz := by rw [List.length_cons, show k + (r.length + 1) = k + 1 + r.length by omega, e2]
    rw [e3] at h ⊢
    obtain ⟨A, hA⟩ : ∃ A, A = cs.toList.take (k * sz) := ⟨_, rfl⟩
    obtain ⟨D, hD⟩ : ∃ D, D = cs.toList.drop (k * sz + sz) := ⟨_, rfl⟩
    have lA : A.length = k * sz := by rw [hA]; simp; omega
    have lD : D.length = cs.size - (k * sz + sz) := by rw [hD]; simp
    have hdd : cs.toList.drop (k * sz + sz + r.length * sz) = D.drop (r.length * sz) := by rw [hD, List.drop_drop]
    rw [← hA, ← hD] at hf
    have ih := fill_seq r (k + 1) (A ++ v.cells.toList ++ D).toArray (fun u hu => hv u (by simp [hu])) (by
      simp only [List.size_toArray, List.length_append, Array.length_toList, h1, lA, lD, e2]; omega)
    have lAV : (A ++ v.cells.toList).length = k * sz + sz := by simp [lA, h1]
    simp only [e1, e2] at ih
    rw [← lAV, List.take_left, List.drop_append, List.drop_eq_nil_of_le (by omega), List.nil_append, show (A ++ v.cells.toList).length + r.length * sz - (A ++ v.cells.toList).length = r.length * sz by omega] at ih
    have hfold : v.cells.zipIdx.foldl (fun (cs : Array Value) (x : Value × Nat) => cs.setIfInBounds (k * sz + x.2) x.1) cs = (A ++ v.cells.toList ++ D).toArray := by
      rw [← Array.foldl_toList, Array.toList_zipIdx]; exact hf
    simp only [List.zipIdx_cons, List.map_cons, Instr.fill, h1]
    rw [if_neg (by simp; omega), hfold, ih, hdd, ← hA]
    simp only [List.flatMap_cons, List.append_assoc]

section
variable {P : Program} {n : Nat} {e : Env} {I : Gh} {L : List Seg} {d : Option Tmp} {ty : TypeId} {pos : String} {af : Array Edge} {g : Option (Nat × Bool)}
theorem flatMap_len {sz : Nat} : ∀ (vs : List Value), (∀ v ∈ vs, v.cells.size = sz) → (vs.flatMap (·.cells.toList)).length = vs.length * sz
  | [], _ => by simp
  | v :: r, h => by
    rw [List.flatMap_cons, List.length_append, flatMap_len r (fun u hu => h u (by simp [hu])), Array.length_toList, h v (by simp), List.length_cons, Nat.add_mul]; omega
/-- A slice literal whose parts stand in their order, each given. -/
theorem oa_slice {t el sz bytes len : Nat} {ps : Array (Nat × Operand)} {z : Value} (vs : List Value) (ht : sliceB P t el sz bytes = true) (hz : (P.info? el).bind (·.zero) = some z)
    (h : (ps.toList.map fun p => (p.1, ev e p.2)) = (vs.zipIdx.map fun p => (p.2, p.1)).map fun p => (p.1, some p.2)) (hlen : vs.length = len) (hv : vs.all (fun v => Nat.beq v.cells.size sz) = true) (hsmall : Nat.ble (len * sz) 16777216 = true) :
    OA P n ⟨d, .buildSlice t len ps, ty, pos, af, g⟩ e (fun b => .slice (some ⟨b, 0, none⟩) len len) (.cells (vs.flatMap (·.cells.toList)).toArray el) := by
  intro a w ha
  have key : ps.map (fun (p : Nat × Operand) => (p.1, a.eval p.2)) = (vs.zipIdx.map fun p => (p.2, p.1)).toArray := Array.ext' (by simpa using eval_parts ha h)
  obtain ⟨i, hu, hi, hsz, _⟩ := sliceB_spec ht
  have hiz : i.zero = some z := by simpa [hi] using hz
  have hv' : ∀ v ∈ vs, v.cells.size = sz := fun v hv1 => Nat.eq_of_beq_eq_true (List.all_eq_true.1 hv v hv1)
  have hsm := Nat.le_of_ble_eq_true hsmall
  subst hlen
  have hfill := fun (c0 : Array Value) (hc : c0.size = vs.length * sz) => fill_seq vs 0 c0 hv' (by rw [Nat.zero_add, hc]; exact Nat.le_refl _)
  have hrun : (Instr.buildSlice t vs.length (vs.zipIdx.map fun p => (p.2, p.1)).toArray).run P w = .ok (.slice (some ⟨w.heap.size, 0, none⟩) vs.length vs.length) { w with heap := w.heap.push (.cells (vs.flatMap (·.cells.toList)).toArray el) } := by
    have fin : ∀ c0 : Array Value, c0.size = vs.length * sz → Instr.fill (fun i => some (i * sz, sz)) c0 (vs.zipIdx.map fun p => (p.2, p.1)) = some (vs.flatMap (·.cells.toList)).toArray := fun c0 hc => by
      rw [hfill c0 hc]
      congr 2
      have hl := flatMap_len vs hv'
      rw [Nat.zero_mul, List.take_zero, List.nil_append, Nat.zero_add, List.drop_eq_nil_of_le (by simp [hc]), List.append_nil]
    have hnot : ¬ (vs.length * sz > 2 ^ 24) := by simp only [show (2 : Nat) ^ 24 = 16777216 from rfl]; omega
    unfold Instr.buildSlice
    simp only [Sem.run_bind, run_underlying hu, Result.andThen_ok, sizeOf, typeInfo, hi, hsz, Sem.run_pure, zeroValue, hiz, program, Sem.run, hnot, if_false]
    by_cases h0 : vs.length * sz = 0
    · simp only [h0, if_true, Sem.run_pure, Result.andThen_ok]
      have := fin #[] (by simpa using h0.symm)
      have e0 : ∀ f : Nat → Value, (Array.range 0).map f = #[] := fun f => by simp
      simp only [e0, this]
      simp [newRow, newObj, Sem.run]
    · simp only [h0, if_false, Sem.run_bind, Sem.run_pure, Result.andThen_ok]
      have := fin ((Array.range (vs.length * sz)).map (fun x => z.cells[x % z.cells.size]!)) (by simp)
      simp [hi, hiz, this, newRow, newObj, Sem.run]
  simp only [execOp]
  rw [show (ps.map fun (x : Nat × Operand) => match x with | (i, x) => (i, a.eval x)) = (vs.zipIdx.map fun p => (p.2, p.1)).toArray from key]
  simp [hrun]
end
theorem pick0 {S : Seg} {L : List Seg} : (S :: L).Perm (S :: L) := .refl _
theorem pickS {x S : Seg} {L L' : List Seg} (h : L.Perm (S :: L')) : (x :: L).Perm (S :: x :: L') := (h.cons x).trans (.swap _ _ _)
theorem Src.incl {I J : Gh} {L M : List Seg} {a : Option Addr} {n sz : Nat} {ys : List (List Value)} (h : Src I L a n sz ys) (hI : I.le J) (hL : Incl L M) : Src J M a n sz ys :=
  ⟨h.1, h.2.1, h.2.2.1, h.2.2.2.1, fun j v hv K N w hK hN hw => h.2.2.2.2 j v hv K N w (hI.trans hK) (hL.trans hN) hw⟩
/-- A slice literal, fresh: as a source, as a row of the call's own. -/
theorem src_lit {I : Gh} {L : List Seg} {b n : Nat} {T : TypeId} {sz : Nat} {cs : List Value} (xs : List (List Value)) (hn : n = xs.length) (hx : ∀ x ∈ xs, x.length = sz) (hc : cs = xs.flatten) (hm : n ≤ maxLen) (hs : 0 < sz)
    (h1 : ∀ x ∈ xs.flatten, x.oneCell' = true) : Src I ([(b, .cells cs.toArray T)] :: L) (some ⟨b, 0, none⟩) n sz xs :=
  (OwnRow.lit (b := b) (T := T) (cur := cs.toArray) hn hx (by simpa using hc) hm).src (fun x hx => .inr (own_seg hx)) hs h1

/-! structs put together -/
/-- Where a struct's fields lie, and how many cells each has. -/
def structPlaces (P : Program) (t : TypeId) : Option (List (Nat × Nat)) :=
  match P.underlying t with
  | some (.struct fs) => fs.toList.mapM fun f => (P.info? f.type).map fun i => (f.offset, i.size)
  | _ => none

def fillL (pl : List (Nat × Nat)) (cs : List Value) : List (Nat × Value) → Option (List Value)
  | [] => some cs
  | (i, v) :: rest =>
    match pl[i]? with
    | none => none
    | some (off, size) => bif Nat.beq v.cells.size size && Nat.ble (off + size) cs.length then fillL pl (cs.take off ++ v.cells.toList ++ cs.drop (off + size)) rest else none

theorem fill_list (pl : List (Nat × Nat)) : ∀ (ps : List (Nat × Value)) (cs cs' : List Value), fillL pl cs ps = some cs' → Instr.fill (fun i => pl[i]?) cs.toArray ps = some cs'.toArray
  | [], cs, cs', h => by simp only [fillL, Option.some.injEq] at h; subst h; rfl
  | (i, v) :: rest, cs, cs', h => by
    simp only [fillL] at h
    simp only [Instr.fill]
    split at h
    · cases h
    · rename_i off size hpl
      rw [hpl]
      simp only
      cases hb : (Nat.beq v.cells.size size && Nat.ble (off + size) cs.length) with
      | false => rw [hb] at h; cases h
      | true =>
        rw [hb] at h
        simp only [Bool.and_eq_true] at hb
        have h1 := Nat.eq_of_beq_eq_true hb.1
        have h2 := Nat.le_of_ble_eq_true hb.2
        have hf := set_fold v.cells.toList 0 off cs.toArray (by simp [h1]; omega)
        have hfold : v.cells.zipIdx.foldl (fun (cs : Array Value) (x : Value × Nat) => cs.setIfInBounds (off + x.2) x.1) cs.toArray = (cs.take off ++ v.cells.toList ++ cs.drop (off + size)).toArray := by
          rw [← Array.foldl_toList, Array.toList_zipIdx]
          simp only [Nat.add_zero, Array.length_toList, h1] at hf
          exact hf
        rw [if_neg (by simp [h1]; omega), hfold]
        exact fill_list pl rest _ cs' h

section
variable {P : Program} {n : Nat} {e : Env} {I : Gh} {L : List Seg} {d : Option Tmp} {ty : TypeId} {pos : String} {af : Array Edge} {g : Option (Nat × Bool)}
theorem run_places {fs : List Field} {w : World} : ∀ {l : List (Nat × Nat)}, (fs.mapM fun f => (P.info? f.type).map fun i => (f.offset, i.size)) = some l →
    (fs.mapM fun f => (do pure (f.offset, ← sizeOf f.type) : Sem (Nat × Nat))).run P w = .ok l w := by
  induction fs with
  | nil => intro l h; simp at h; subst h; simp
  | cons f r ih =>
    intro l h
    simp only [List.mapM_cons, Option.bind_eq_bind, Option.pure_def] at h
    cases hi : P.info? f.type with
    | none => simp [hi] at h
    | some i =>
      simp only [hi, Option.map_some, Option.bind_some] at h
      cases hr : (r.mapM fun f => (P.info? f.type).map fun i => (f.offset, i.size)) with
      | none => simp [hr] at h
      | some l' =>
        simp only [hr, Option.bind_some, Option.some.injEq] at h
        subst h
        have h1 : (sizeOf f.type).run P w = .ok i.size w := by simp [sizeOf, typeInfo, hi]
        have ih := ih hr
        simp only [List.mapM_cons, Sem.run_bind, h1, Result.andThen_ok, Sem.run_pure, ih]

theorem os_struct {t : TypeId} {ps : Array (Nat × Operand)} {pl : List (Nat × Nat)} {z : Value} {cs : List Value} (vs : List (Nat × Value)) (hpl : structPlaces P t = some pl) (hz : (P.info? t).bind (·.zero) = some z)
    (h : (ps.toList.map fun p => (p.1, ev e p.2)) = vs.map fun p => (p.1, some p.2)) (hf : fillL pl z.cells.toList vs = some cs) : OS P n ⟨d, .build t ps, ty, pos, af, g⟩ e I L (.agg cs.toArray) := by
  refine os_build (vs := vs) h fun w => ?_
  unfold structPlaces at hpl
  cases hu : P.underlying t with
  | none => simp [hu] at hpl
  | some dd =>
    cases dd <;> simp only [hu] at hpl <;> try (cases hpl; done)
    rename_i fs
    have hi : ∃ i, P.info? t = some i ∧ i.zero = some z := by
      cases hq : P.info? t with
      | none => simp [hq] at hz
      | some i => exact ⟨i, rfl, by simpa [hq] using hz⟩
    obtain ⟨i, hi, hiz⟩ := hi
    have hp := run_places (w := w) hpl
    have hfl := fill_list pl vs z.cells.toList cs hf
    simp only [Array.toArray_toList] at hfl
    have hfun : (fun i : Nat => pl.toArray[i]?) = (fun i : Nat => pl[i]?) := by funext i; simp
    unfold Instr.build
    simp only [Sem.run_bind, zeroValue, typeInfo, hi, Sem.run_pure, Result.andThen_ok, run_underlying hu, program, Sem.run, hiz]
    rw [← Array.toArray_toList (xs := fs)]
    simp only [List.mapM_toArray]
    simp only [bind_pure_comp] at hp
    simp [Sem.run_bind, hp, hfl]
end
end Go.Gl
