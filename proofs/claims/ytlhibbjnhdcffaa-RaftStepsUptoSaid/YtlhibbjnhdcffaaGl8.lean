/- The logic 'Gl', part 8: maps with integer keys and integer elements, of the call's own. -/
import Derived.Test.YtlhibbjnhdcffaaGl7
namespace Go.Gl
open Go

/-- The keys of a map's entries. -/
def MapK (es : Array MapEntry) (kk vk : IntKind) (ks : List Int) : Prop := es.toList.map (·.key) = ks.map (Value.int kk) ∧ ∀ e ∈ es.toList, ∃ x, e.val = .int vk x

theorem MapK.empty (kk vk : IntKind) : MapK #[] kk vk [] := ⟨rfl, fun e he => by simp at he⟩
theorem MapK.size {es : Array MapEntry} {kk vk : IntKind} {ks : List Int} (h : MapK es kk vk ks) : es.size = ks.length := by
  have := congrArg List.length h.1
  simpa using this

theorem findNow_int {q kk : IntKind} (n : Int) : ∀ (l : List MapEntry) (ks : List Int) (i : Nat), l.map (·.key) = ks.map (Value.int kk) →
    (n ∉ ks → Instr.findNow (.int q) (.int kk n) l i = some none) ∧ (n ∈ ks → ∃ j e, l[j]? = some e ∧ e.key = .int kk n ∧ Instr.findNow (.int q) (.int kk n) l i = some (some (i + j, e.val)))
  | [], [], i, _ => ⟨fun _ => rfl, fun h => by cases h⟩
  | [], _ :: _, _, h => by simp at h
  | _ :: _, [], _, h => by simp at h
  | e :: r, k :: ks, i, h => by
    simp only [List.map_cons, List.cons.injEq] at h
    obtain ⟨h1, h2⟩ := h
    have ih := findNow_int (q := q) n r ks (i + 1) h2
    by_cases he : n = k
    · subst he
      refine ⟨fun hn => absurd (List.mem_cons_self) hn, fun _ => ⟨0, e, rfl, h1, ?_⟩⟩
      simp [Instr.findNow, h1, Instr.sameNow]
    · have hs : Instr.sameNow (.int q) (.int kk n) e.key = some false := by rw [h1]; simp [Instr.sameNow, he]
      refine ⟨fun hn => ?_, fun hm => ?_⟩
      · simp only [Instr.findNow, hs]
        exact ih.1 (fun hm => hn (List.mem_cons_of_mem _ hm))
      · rcases List.mem_cons.1 hm with hm | hm
        · exact absurd hm he
        · obtain ⟨j, e', g1, g2, g3⟩ := ih.2 hm
          refine ⟨j + 1, e', by simpa using g1, g2, ?_⟩
          simp only [Instr.findNow, hs, g3]
          congr 3
          omega

section
variable {P : Program} {n : Nat} {e : Env} {I : Gh} {L : List Seg} {d : Option Tmp} {ty : TypeId} {pos : String} {af : Array Edge} {g : Option (Nat × Bool)}

theorem oa_makeMap {t : TypeId} : OA P n ⟨d, .makeMap t none, ty, pos, af, g⟩ e (fun b => .map (some b)) (.map #[] 0) :=
  fun a w ha => by simp [execOp, Instr.makeMap, newObj, Sem.run]

theorem run_checkKey' {t : TypeId} {k : IntKind} {q : IntKind} {z : Int} {b : Bool} {w : World} (ht : P.underlying t = some (.int q)) (m : Nat) : (Instr.checkKey b (m + 1) t (.int k z)).run P w = .ok () w := by
  simp only [Instr.checkKey, Sem.run_bind, run_underlying ht, Result.andThen_ok]
  rfl
theorem run_checkKey {t : TypeId} {k : IntKind} {q : IntKind} {z : Int} {b : Bool} {w : World} (ht : P.underlying t = some (.int q)) : (Instr.checkKey b 10000 t (.int k z)).run P w = .ok () w := run_checkKey' ht 9999

theorem run_getObj {w : World} {b : Nat} {es : Array MapEntry} {c : Nat} (h : w.heap[b]? = some (.map es c)) : (getObj b).run P w = .ok (.map es c) w := by
  simp [getObj, Sem.run, h]
theorem run_findKey {kt : TypeId} {q kk : IntKind} {z : Int} {es : Array MapEntry} {w : World} {r : Option (Nat × Value)} (ht : P.underlying kt = some (.int q)) (h : Instr.findNow (.int q) (.int kk z) es.toList 0 = some r) :
    (Instr.findKey kt (.int kk z) es.toList).run P w = .ok r w := by
  simp [Instr.findKey, Sem.run_bind, run_underlying ht, h]

theorem os_lookup_int {t kt et : TypeId} {x y : Operand} {b : Nat} {es : Array MapEntry} {c : Nat} {kk q vk : IntKind} {z : Int} {ks : List Int} (hx : ev e x = some (.map (some b))) (hy : ev e y = some (.int kk z))
    (ht : P.underlying t = some (.map kt et)) (hk : P.underlying kt = some (.int q)) (hz : (P.info? et).bind (·.zero) = some (.int vk 0)) (hm : MapK es kk vk ks) (hr : Rd I L b (.map es c)) :
    ∃ v, OS P n ⟨d, .lookup t x y false, ty, pos, af, g⟩ e I L (.int vk v) := by
  have hf := findNow_int (q := q) z es.toList ks 0 hm.1
  have hi : ∃ i, P.info? et = some i ∧ i.zero = some (.int vk 0) := by
    cases h : P.info? et with
    | none => simp [h] at hz
    | some i => exact ⟨i, rfl, by simpa [h] using hz⟩
  obtain ⟨i, hi, hiz⟩ := hi
  by_cases hin : z ∈ ks
  · obtain ⟨j, e', g1, g2, g3⟩ := hf.2 hin
    obtain ⟨v, hv⟩ := hm.2 e' (List.mem_of_getElem? g1)
    refine ⟨v, os_runm fun J M a w hJ hM ha hw => ?_⟩
    have hh := hr.heap hJ hM hw
    simp only [execOp, ha.eval hx, ha.eval hy]
    simp [Instr.lookup, Sem.run_bind, run_underlying ht, run_getObj hh, run_checkKey hk, run_findKey hk g3, hv]
  · refine ⟨0, os_runm fun J M a w hJ hM ha hw => ?_⟩
    have hh := hr.heap hJ hM hw
    have g3 := hf.1 hin
    simp only [execOp, ha.eval hx, ha.eval hy]
    simp [Instr.lookup, Sem.run_bind, run_underlying ht, run_getObj hh, run_checkKey hk, run_findKey hk g3, zeroValue, typeInfo, hi, hiz]

theorem os_len_map {t kt et : TypeId} {x : Operand} {b : Nat} {es : Array MapEntry} {c : Nat} (hx : ev e x = some (.map (some b))) (ht : P.underlying t = some (.map kt et)) (hr : Rd I L b (.map es c)) :
    OS P n ⟨d, .call ⟨.builtin .len, #[x], #[t]⟩, ty, pos, af, g⟩ e I L (.int .i64 (es.size : Nat)) :=
  os_runm fun J M a w hJ hM ha hw => by
    have hh := hr.heap hJ hM hw
    simp [execOp, resolve, ha.eval hx, invoke, builtin, Builtin.len_, Sem.run_bind, run_underlying ht, run_getObj hh, goInt]

theorem ox_mapPut_int {t kt et : TypeId} {x y u : Operand} {b : Nat} {es : Array MapEntry} {c : Nat} {kk q vk : IntKind} {z v : Int} {ks : List Int} {L0 : List Seg} (hx : ev e x = some (.map (some b))) (hy : ev e y = some (.int kk z)) (hu : ev e u = some (.int vk v))
    (ht : P.underlying t = some (.map kt et)) (hk : P.underlying kt = some (.int q)) (hm : MapK es kk vk ks) (hL : L.Perm ([(b, .map es c)] :: L0)) :
    OX P n ⟨d, .mapUpdate t x y u, ty, pos, af, g⟩ e I L fun _ M _ => ∃ es' c', M = [(b, .map es' c')] :: L0 ∧ MapK es' kk vk (if z ∈ ks then ks else ks ++ [z]) := by
  intro J E a w hJ ha hw
  have hw' : St J ([(b, .map es c)] :: (E ++ L0)) w := hw.perm (List.perm_middle.symm.trans (List.Perm.append_left E hL.symm))
  have hh : w.heap[b]? = some (.map es c) := hw'.own (b, .map es c) (by simp)
  have hlt := lt_of_get hh
  have hf := findNow_int (q := q) z es.toList ks 0 hm.1
  have set_ok : ∀ es' c', St J (E ++ [(b, .map es' c')] :: L0) { w with heap := w.heap.setIfInBounds b (.map es' c') } := fun es' c' =>
    St.mid (hw'.upd (.head .head) (by simp [hlt]) (fun k hk => by simp [Array.getElem?_setIfInBounds_ne (Ne.symm hk)]) rfl rfl rfl)
  have hset : ∀ es' c', (setObj b (.map es' c')).run P w = .ok () { w with heap := w.heap.setIfInBounds b (.map es' c') } := fun es' c' => by simp [setObj, Sem.run, hh]
  by_cases hin : z ∈ ks
  · obtain ⟨j, e', g1, g2, g3⟩ := hf.2 hin
    simp only [Nat.zero_add] at g3
    have hj := (List.getElem?_eq_some_iff.1 g1).1
    have hstay : (Instr.keyThatStays (((es[j]?).map (·.key)).getD (.int kk z)) (.int kk z)).run P w = .ok (.int kk z) w := by
      have : es[j]? = some e' := by simpa using g1
      simp [Instr.keyThatStays, this, g2, Instr.sameBits]
    refine yield_skip (w' := _) ?_ ⟨J, _, .refl J, set_ok (es.modify j fun e => { e with key := .int kk z, val := .int vk v }) c, _, _, rfl, ?_⟩
    · simp only [execOp, ha.eval hx, ha.eval hy, ha.eval hu]
      simp [Instr.mapUpdate, Sem.run_bind, run_underlying ht, run_getObj hh, run_checkKey hk, run_findKey hk g3, hstay, hset]
    · rw [if_pos hin]
      refine ⟨?_, ?_⟩
      · rw [← hm.1]
        apply List.ext_getElem?
        intro i
        simp only [List.getElem?_map, Array.getElem?_toList, Array.getElem?_modify]
        by_cases hij : j = i
        · subst hij
          have : es[j]? = some e' := by simpa using g1
          simp [this, g2]
        · simp [hij]
      · intro e1 he1
        obtain ⟨i, hi1⟩ := List.getElem?_of_mem he1
        simp only [Array.getElem?_toList, Array.getElem?_modify] at hi1
        split at hi1
        · simp only [Option.map_eq_some_iff] at hi1
          obtain ⟨e2, _, rfl⟩ := hi1
          exact ⟨v, rfl⟩
        · exact hm.2 e1 (List.mem_of_getElem? (by simpa using hi1))
  · have g3 := hf.1 hin
    refine yield_skip (w' := _) ?_ ⟨J, _, .refl J, set_ok (es.push { key := .int kk z, val := .int vk v, born := c }) (c + 1), _, _, rfl, ?_⟩
    · simp only [execOp, ha.eval hx, ha.eval hy, ha.eval hu]
      simp [Instr.mapUpdate, Sem.run_bind, run_underlying ht, run_getObj hh, run_checkKey hk, run_findKey hk g3, hset]
    · rw [if_neg hin]
      refine ⟨by simp [hm.1], fun e1 he1 => ?_⟩
      simp only [Array.toList_push, List.mem_append, List.mem_singleton] at he1
      rcases he1 with he1 | rfl
      · exact hm.2 e1 he1
      · exact ⟨v, rfl⟩
/-- A stable value of which only the kind is told. -/
theorem EL_e {Q : Exit → Act → World → Prop} {ops : Array Oper} {rest : List Oper} {o : Oper} {vk : IntKind} {dd : Tmp} (hg : o.guard = none) (hd : o.dst = some dd) (hn : Nat.blt dd n = true) (h : ∃ v, OS P n o e I L (.int vk v))
    (k : ∀ v, EL P n ops rest Q ((dd, .int vk v) :: e) I L) : EL P n ops (o :: rest) Q e I L := let ⟨v, hv⟩ := h; EL_s hg hd hn hv (k v)
end
end Go.Gl
