/- The logic 'Gl', part 9: rows of the call's own: elements stored; three-index slices. -/
import Derived.Test.YtlhibbjnhdcffaaGl8
namespace Go.Gl
open Go
section
variable {P : Program} {n : Nat} {Q : Exit → Act → World → Prop} {e : Env} {I : Gh} {L : List Seg} {d : Option Tmp} {ty : TypeId} {pos : String} {af : Array Edge} {g : Option (Nat × Bool)} {ops : Array Oper} {rest : List Oper} {o : Oper}

theorem os_slice3 {t : TypeId} {x y z u : Operand} {a : Option Addr} {m c : Nat} {k1 k2 k3 : IntKind} {z1 z2 z3 : Int} {el sz bytes : Nat} (l h mx : Nat) (hx : ev e x = some (.slice a m c)) (hy : ev e y = some (.int k1 z1)) (hz : ev e z = some (.int k2 z2)) (hu : ev e u = some (.int k3 z3))
    (ht : sliceB P t el sz bytes = true) (h1 : z1 = (l : Int)) (h2 : z2 = (h : Int)) (h3 : z3 = (mx : Int)) (hlh : l ≤ h) (hhm : h ≤ mx) (hmc : mx ≤ c) :
    OS P n ⟨d, .slice t x (some y) (some z) (some u), ty, pos, af, g⟩ e I L (.slice (if mx = l then a else a.map (·.add (l * sz))) (h - l) (mx - l)) :=
  os_run fun b w hb => by
    obtain ⟨inf, hu', hinf, hsz, _⟩ := sliceB_spec ht
    subst h1; subst h2; subst h3
    have e1 : (l : Int) ≤ (h : Int) := by omega
    have e2 : (h : Int) ≤ (mx : Int) := by omega
    have e3 : (mx : Int) ≤ (c : Int) := by omega
    simp [execOp, hb.eval hx, hb.eval hy, hb.eval hz, hb.eval hu, Instr.sliceAt, Instr.slice, Instr.sliceBounds, Instr.sliceBound, asIntOf, Sem.run_bind, run_underlying hu', sizeOf, typeInfo, hinf, hsz, hlh, hhm, hmc]
theorem os_slice_to {t : TypeId} {x y : Operand} {a : Option Addr} {m c : Nat} {k : IntKind} {z : Int} {el sz bytes : Nat} (h : Nat) (hx : ev e x = some (.slice a m c)) (hy : ev e y = some (.int k z)) (hz : z = (h : Int)) (ht : sliceB P t el sz bytes = true) (hc : h ≤ c) :
    OS P n ⟨d, .slice t x none (some y) none, ty, pos, af, g⟩ e I L (.slice a h c) := by
  have := os_sub_slice (P := P) (n := n) (e := e) (I := I) (L := L) (d := d) (ty := ty) (pos := pos) (af := af) (g := g) (k := .i64) (k' := k) (lo := none) (hi := some y) 0 h hx ht rfl ⟨z, hy, hz⟩ (Nat.zero_le _) hc
  have e1 : (if c = 0 then a else a.map (·.add (0 * sz))) = a := by
    split
    · rfl
    · cases a <;> simp [Addr.add]
  rw [e1] at this
  simpa using this

theorem flat_set {sz : Nat} : ∀ {xs : List (List Value)}, (∀ x ∈ xs, x.length = sz) → ∀ {i : Nat} {x : List Value}, i < xs.length → x.length = sz → xs.flatten.take (i * sz) ++ x ++ xs.flatten.drop (i * sz + sz) = (xs.set i x).flatten
  | [], _, i, x, hi, _ => by simp at hi
  | y :: r, h, 0, x, _, hx => by
    have hy := h y (by simp)
    simp only [Nat.zero_mul, List.take_zero, List.nil_append, Nat.zero_add, List.flatten_cons, List.set_cons_zero]
    rw [List.drop_append, List.drop_eq_nil_of_le (by omega), hy]; simp
  | y :: r, h, i + 1, x, hi, hx => by
    have hy := h y (by simp)
    have ih := flat_set (xs := r) (fun z hz => h z (List.mem_cons_of_mem _ hz)) (i := i) (x := x) (by simpa using hi) hx
    simp only [List.flatten_cons, List.set_cons_succ]
    have e1 : (i + 1) * sz = i * sz + sz := by rw [Nat.add_mul]; omega
    rw [List.take_append, List.drop_append, hy, List.take_of_length_le (by omega), List.drop_eq_nil_of_le (by omega), List.nil_append, show (i + 1) * sz - sz = i * sz by omega, show (i + 1) * sz + sz - sz = i * sz + sz by omega, ← ih]
    simp

/-- An element stored. -/
theorem ox_store_row {t : TypeId} {x y : Operand} {a : Option Addr} {m c i sz : Nat} {S : Seg} {T : TypeId} {xs : List (List Value)} {v : Value} {L0 : List Seg} (hx : ev e x = some (.pointer (some ((opA a).add (i * sz))))) (hy : ev e y = some v)
    (hsz : (P.info? t).map (·.size) = some v.cells.size) (hv : Nat.beq v.cells.size sz = true) (hone : v.cells.toList.all (·.oneCell') = true) (ho : OwnRow a m c S T sz xs) (hi : i < m) (hL : L.Perm (S :: L0)) :
    OX P n ⟨d, .store t x y, ty, pos, af, g⟩ e I L fun _ M _ => ∃ S', M = S' :: L0 ∧ OwnRow a m c S' T sz (xs.set i v.cells.toList) := by
  intro J E b w hJ hb hw
  have hw' : St J (S :: (E ++ L0)) w := hw.perm (List.perm_middle.symm.trans (List.Perm.append_left E hL.symm))
  obtain ⟨h1, h2, h3⟩ := ho
  have hvs := Nat.eq_of_beq_eq_true hv
  rcases h3 with ⟨e1, e2, _, _⟩ | ⟨gb, cur, rfl, rfl, e3, e4, e5, e6⟩
  · omega
  · have hgh : w.heap[gb]? = some (.cells cur T) := hw'.own (gb, .cells cur T) (by simp)
    have hadd : (opA (some (⟨gb, 0, none⟩ : Addr))).add (i * sz) = ⟨gb, i * sz, none⟩ := by simp only [opA, Option.getD_some]; rw [addr_add _ rfl]; simp
    have hle : (i + 1) * sz ≤ m * sz := Nat.mul_le_mul_right _ hi
    have hle2 : m * sz ≤ c * sz := Nat.mul_le_mul_right _ e3
    have e1 : (i + 1) * sz = i * sz + sz := by rw [Nat.add_mul]; omega
    have hst := run_storeCells_at P gb (i * sz) T v.cells.toList 0 cur w hgh (by rw [Array.length_toList, hvs]; omega) (fun u hu => List.all_eq_true.1 hone u hu)
    simp only [Nat.add_zero, Array.length_toList, hvs] at hst
    refine yield_skip (w' := w.setRow gb (cur.toList.take (i * sz) ++ v.cells.toList ++ cur.toList.drop (i * sz + sz)).toArray) ?_ ?_
    · cases hin : P.info? t with
      | none => simp [hin] at hsz
      | some inf =>
        have hs : inf.size = v.cells.size := by simpa [hin] using hsz
        rw [hadd] at hx
        simp only [execOp, hb.eval hx, hb.eval hy]
        simp [Instr.storeAt, Instr.sureAddr, storeVar, Sem.run_bind, sizeOf, typeInfo, hin, hs, hst]
    · refine ⟨J, [(gb, .cells (cur.toList.take (i * sz) ++ v.cells.toList ++ cur.toList.drop (i * sz + sz)).toArray T)] :: L0, .refl J, ?_, _, rfl, by rw [List.length_set]; exact h1, ?_, .inr ⟨gb, _, rfl, rfl, e3, e4, ?_, ?_⟩⟩
      · exact St.mid (hw'.upd (.head .head) (setRow_heap w gb cur _ T (0, 0) hgh) (fun k hk => setRow_other w gb k _ hk) rfl rfl rfl)
      · intro q hq
        rcases List.mem_or_eq_of_mem_set hq with hq | rfl
        · exact h2 q hq
        · rw [Array.length_toList]; exact hvs
      · simp only [List.size_toArray, List.length_append, List.length_take, List.length_drop, Array.length_toList, hvs]; omega
      · have hf := flat_set h2 (i := i) (x := v.cells.toList) (by omega) (by rw [Array.length_toList]; exact hvs)
        rw [← e6, List.take_take, Nat.min_eq_left (by omega), List.drop_take] at hf
        rw [← hf]
        have ll : (cur.toList.take (i * sz) ++ v.cells.toList).length = i * sz + sz := by simp [hvs]; omega
        rw [List.take_append, List.take_of_length_le (by omega), ll]
end
theorem os_half {n : Nat} {P : Program} {e : Env} {I : Gh} {L : List Seg} {d : Option Tmp} {ty : TypeId} {pos : String} {af : Array Edge} {g : Option (Nat × Bool)} {t u : TypeId} {x y : Operand} {k k' : IntKind} {p : Int} (hx : ev e x = some (.int k p)) (hy : ev e y = some (.int k' 1)) (hk : 1 ≤ k.bits) (hp : 0 ≤ p) :
    OS P n ⟨d, .binOp .shr t x y u, ty, pos, af, g⟩ e I L (.int k (p / 2)) :=
  os_run fun a w ha => by
    have h2 : (binOp .shr t (.int k p) (.int k' 1)).run P w = .ok (.int k (p / 2)) w := by
      have h1 : min 1 k.bits = 1 := by omega
      simp [binOp, Op.shift, h1, Int.fdiv_eq_ediv_of_nonneg p (by decide : (0 : Int) ≤ 2)]
    simp only [execOp, ha.eval hx, ha.eval hy]
    simp [Sem.run_bind, eqGuard, h2, Result.andThen]

theorem spot_add {q : Addr} (h : q.spot = none) (i : Nat) : (q.add i).spot = none := by rw [addr_add q h]
theorem os_fieldA {n : Nat} {P : Program} {e : Env} {I : Gh} {L : List Seg} {d : Option Tmp} {ty : TypeId} {pos : String} {af : Array Edge} {g : Option (Nat × Bool)} {t : TypeId} {x : Operand} {q : Addr} {k off : Nat} (hx : ev e x = some (.pointer (some q))) (hq : q.spot = none) (ht : fieldB P t k off = true) :
    OS P n ⟨d, .fieldAddr t x k, ty, pos, af, g⟩ e I L (.pointer (some (q.add off))) := by
  obtain ⟨b, o, s⟩ := q
  cases hq
  rw [addr_add _ rfl]
  exact os_field hx ht
theorem Cells.at {I : Gh} {L : List Seg} {a : Addr} {cs : List Value} (k : Nat) {v : Value} (h : Cells I L a cs) (hv : cs[k]? = some v) : Cells I L (a.add k) [v] :=
  h.part k (ds := [v]) (fun j u hu => by
    cases j with
    | zero => simp only [List.getElem?_cons_zero, Option.some.injEq] at hu; subst hu; exact hv
    | succ j => simp at hu)
theorem OwnRow.spot {a : Option Addr} {m c : Nat} {S : Seg} {T : TypeId} {sz : Nat} {xs : List (List Value)} (h : OwnRow a m c S T sz xs) (i : Nat) : ((opA a).add i).spot = none := by
  rcases h.2.2 with ⟨rfl, _⟩ | ⟨b, _, rfl, _⟩ <;> exact spot_add rfl i
theorem Row.spotAt {I : Gh} {L : List Seg} {a : Option Addr} {n c sz : Nat} {xs : List (List Value)} (h : Row I L a n c sz xs) (hsz : 0 < sz) (hn : 0 < n) (i : Nat) : ((opA a).add i).spot = none := spot_add (h.spot hsz hn) i

theorem flat_set1 {sz : Nat} : ∀ {xs : List (List Value)}, (∀ x ∈ xs, x.length = sz) → ∀ {i f : Nat} {r : List Value} {u : Value}, xs[i]? = some r → f < sz → xs.flatten.set (i * sz + f) u = (xs.set i (r.set f u)).flatten
  | [], _, i, f, r, u, hi, _ => by simp at hi
  | y :: q, h, 0, f, r, u, hi, hf => by
    have hy := h y (by simp)
    simp only [List.getElem?_cons_zero, Option.some.injEq] at hi
    subst hi
    simp only [Nat.zero_mul, Nat.zero_add, List.flatten_cons, List.set_cons_zero]
    rw [List.set_append_left _ _ (by omega)]
  | y :: q, h, i + 1, f, r, u, hi, hf => by
    have hy := h y (by simp)
    have e1 : (i + 1) * sz = i * sz + sz := by rw [Nat.add_mul]; omega
    have ih := flat_set1 (xs := q) (fun z hz => h z (List.mem_cons_of_mem _ hz)) (i := i) (f := f) (r := r) (u := u) (by simpa using hi) hf
    simp only [List.flatten_cons, List.set_cons_succ]
    rw [List.set_append_right _ _ (by omega), hy, show (i + 1) * sz + f - sz = i * sz + f by omega, ih]
theorem ox_store_cell {n : Nat} {P : Program} {e : Env} {I : Gh} {L : List Seg} {d : Option Tmp} {ty : TypeId} {pos : String} {af : Array Edge} {g : Option (Nat × Bool)} {t : TypeId} {x y : Operand} {a : Option Addr} {m c i f sz : Nat} {S : Seg} {T : TypeId} {xs : List (List Value)} {r : List Value} {v : Value} {L0 : List Seg} (hx : ev e x = some (.pointer (some (((opA a).add (i * sz)).add f)))) (hy : ev e y = some v)
    (hsz : (P.info? t).map (·.size) = some 1) (hv : v.cells = #[v]) (hone : v.oneCell' = true) (ho : OwnRow a m c S T sz xs) (hr : xs[i]? = some r) (hf : f < sz) (hL : L.Perm (S :: L0)) :
    OX P n ⟨d, .store t x y, ty, pos, af, g⟩ e I L fun _ M _ => ∃ S', M = S' :: L0 ∧ OwnRow a m c S' T sz (xs.set i (r.set f v)) := by
  intro J E b w hJ hb hw
  have hw' : St J (S :: (E ++ L0)) w := hw.perm (List.perm_middle.symm.trans (List.Perm.append_left E hL.symm))
  obtain ⟨h1, h2, h3⟩ := ho
  have hi : i < m := by rw [h1]; exact (List.getElem?_eq_some_iff.1 hr).1
  rcases h3 with ⟨e1, e2, _, _⟩ | ⟨gb, cur, rfl, rfl, e3, e4, e5, e6⟩
  · omega
  · have hgh : w.heap[gb]? = some (.cells cur T) := hw'.own (gb, .cells cur T) (by simp)
    have hadd : ((opA (some (⟨gb, 0, none⟩ : Addr))).add (i * sz)).add f = ⟨gb, i * sz + f, none⟩ := by simp only [opA, Option.getD_some]; rw [addr_add _ (spot_add rfl _), addr_add _ rfl]; simp
    have hle : (i + 1) * sz ≤ m * sz := Nat.mul_le_mul_right _ hi
    have hle2 : m * sz ≤ c * sz := Nat.mul_le_mul_right _ e3
    have e1 : (i + 1) * sz = i * sz + sz := by rw [Nat.add_mul]; omega
    have hlen : i * sz + f < cur.toList.length := by simp only [Array.length_toList]; omega
    have hst := run_storeCells_at P gb (i * sz + f) T [v] 0 cur w hgh (by simp only [List.length_cons, List.length_nil]; omega) (fun u hu => by rw [List.mem_singleton.1 hu]; exact hone)
    simp only [Nat.add_zero, List.length_cons, List.length_nil] at hst
    have hset : cur.toList.take (i * sz + f) ++ [v] ++ cur.toList.drop (i * sz + f + (0 + 1)) = cur.toList.set (i * sz + f) v := by
      rw [List.set_eq_take_append_cons_drop, if_pos hlen]; simp
    rw [hset] at hst
    refine yield_skip (w' := w.setRow gb (cur.toList.set (i * sz + f) v).toArray) ?_ ?_
    · cases hin : P.info? t with
      | none => simp [hin] at hsz
      | some inf =>
        have hs : inf.size = 1 := by simpa [hin] using hsz
        rw [hadd] at hx
        simp only [execOp, hb.eval hx, hb.eval hy]
        simp [Instr.storeAt, Instr.sureAddr, storeVar, Sem.run_bind, sizeOf, typeInfo, hin, hs, hst, hv]
    · refine ⟨J, [(gb, .cells (cur.toList.set (i * sz + f) v).toArray T)] :: L0, .refl J, ?_, _, rfl, by rw [List.length_set]; exact h1, ?_, .inr ⟨gb, _, rfl, rfl, e3, e4, ?_, ?_⟩⟩
      · exact St.mid (hw'.upd (.head .head) (setRow_heap w gb cur _ T (0, 0) hgh) (fun k hk => setRow_other w gb k _ hk) rfl rfl rfl)
      · intro q hq
        rcases List.mem_or_eq_of_mem_set hq with hq | rfl
        · exact h2 q hq
        · rw [List.length_set]; exact h2 r (List.mem_of_getElem? hr)
      · simp only [List.size_toArray, List.length_set, Array.length_toList]; omega
      · rw [← flat_set1 h2 hr hf, ← e6, List.take_set]
theorem Row.take {I : Gh} {L : List Seg} {a : Option Addr} {n c sz : Nat} {xs : List (List Value)} (h : Row I L a n c sz xs) (i : Nat) (hi : i ≤ n) : Row I L a i c sz (xs.take i) :=
  ⟨by rw [List.length_take, ← h.len]; omega, by have := h.le; omega, h.cap, h.nil, fun j x hx => h.at_ j x (by rw [List.getElem?_take] at hx; split at hx; exact hx; cases hx), fun x hx => h.ne x (List.mem_of_mem_take hx)⟩

end Go.Gl
