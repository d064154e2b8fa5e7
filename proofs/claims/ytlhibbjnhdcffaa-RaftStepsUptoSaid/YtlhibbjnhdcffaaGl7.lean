/- The logic 'Gl', part 7: calls that hand back something of their own; loops' small things; rows cut and cleared. -/
import Derived.Test.YtlhibbjnhdcffaaGl6
import Derived.Lib.SliceRun
namespace Go.Gl
open Go

theorem Incl.of_nil {L M : List Seg} (h : Incl L M) : Incl ([] :: L) M := by
  obtain ⟨E, hE⟩ := h
  exact ⟨E, by simpa using hE⟩

/-- A call that computes, makes, and hands back one segment that its caller owns. -/
def PX (P : Program) (f : FuncId) (args : Array Value) (I : Gh) (L : List Seg) (post : Gh → Seg → Value → Prop) : Prop :=
  ∀ J M, I.le J → Incl L M → FC P f args J M fun K N v => J.le K ∧ ∃ S, N = S :: M ∧ post K S v

/-- A call that turns one owned segment; what it may read besides lies in L. -/
def PM (P : Program) (f : FuncId) (args : Array Value) (I : Gh) (L : List Seg) (S : Seg) (post : Gh → Seg → Value → Prop) : Prop :=
  ∀ J M, I.le J → Incl L M → FC P f args J (S :: M) fun K N v => J.le K ∧ ∃ S', N = S' :: M ∧ post K S' v

section
variable {P : Program} {n : Nat} {Q : Exit → Act → World → Prop} {e : Env} {I : Gh} {L : List Seg} {d : Option Tmp} {ty : TypeId} {pos : String} {af : Array Edge} {g : Option (Nat × Bool)} {ops : Array Oper} {rest : List Oper} {o : Oper}

theorem PX.of {f : FuncId} {fn : Func} {c : Code} {args : List Value} {post : Gh → Seg → Value → Prop} (hf : P.funcs[f]? = some fn) (hb : fn.body = some c) (hn : fn.ntmps = n) (hle : Nat.ble args.length n = true)
    (h : ∀ J M, I.le J → Incl L M → EW P n c (bodyPost P fn (Ret fun K N v => J.le K ∧ ∃ S, N = S :: M ∧ post K S v)) (envOf 0 args) J M) : PX P f args.toArray I L post :=
  fun J M hJ hM => FC.of hf hb hn hle (h J M hJ hM)
theorem PM.of {f : FuncId} {fn : Func} {c : Code} {args : List Value} {S : Seg} {post : Gh → Seg → Value → Prop} (hf : P.funcs[f]? = some fn) (hb : fn.body = some c) (hn : fn.ntmps = n) (hle : Nat.ble args.length n = true)
    (h : ∀ J M, I.le J → Incl L M → EW P n c (bodyPost P fn (Ret fun K N v => J.le K ∧ ∃ S', N = S' :: M ∧ post K S' v)) (envOf 0 args) J (S :: M)) : PM P f args.toArray I L S post :=
  fun J M hJ hM => FC.of hf hb hn hle (h J M hJ hM)

theorem ox_make {f : FuncId} {xs : Array Operand} {ts : Array TypeId} {vs : List Value} {post : Gh → Seg → Value → Prop} (hb : bodyB P f) (hv : argsE e xs.toList vs) (h : PX P f vs.toArray I L post) :
    OX P n ⟨d, .call ⟨.value (.func f), xs, ts⟩, ty, pos, af, g⟩ e I L fun K M v => ∃ S, M = S :: L ∧ post K S v :=
  ox_call hb hv fun J E hJ w hw => (h J (E ++ L) hJ (.front E L) w hw).mono fun _ w' ⟨K, N, v, he, hs, hk, S, hN, hp⟩ => by
    subst hN
    exact ⟨K, E ++ S :: L, v, he, hs.mid, hk, S :: L, rfl, S, rfl, hp⟩
theorem ox_turn {f : FuncId} {xs : Array Operand} {ts : Array TypeId} {vs : List Value} {S : Seg} {L0 : List Seg} {post : Gh → Seg → Value → Prop} (hb : bodyB P f) (hv : argsE e xs.toList vs) (hL : L.Perm (S :: L0)) (h : PM P f vs.toArray I L0 S post) :
    OX P n ⟨d, .call ⟨.value (.func f), xs, ts⟩, ty, pos, af, g⟩ e I L fun K M v => ∃ S', M = S' :: L0 ∧ post K S' v :=
  ox_call hb hv fun J E hJ w hw => (h J (E ++ L0) hJ (.front E L0) w (hw.perm (List.perm_middle.symm.trans (List.Perm.append_left E hL.symm)))).mono fun _ w' ⟨K, N, v, he, hs, hk, S', hN, hp⟩ => by
    subst hN
    exact ⟨K, E ++ S' :: L0, v, he, hs.mid, hk, S' :: L0, rfl, S', rfl, hp⟩

theorem px_ret1 {fn : Func} {J : Gh} {L0 : List Seg} {post : Gh → Seg → Value → Prop} {rv : ResultVar} {v : Value} (S : Seg) (hr : fn.results = #[rv]) (h1 : resVar P e I L rv v) (hJ : J.le I) (hL : Incl (S :: L0) L) (hp : post I S v) {ex : Exit}
    (hex : ex = .ret ∨ ex = .normal) : EQ n (bodyPost P fn (Ret fun K N v => J.le K ∧ ∃ S, N = S :: L0 ∧ post K S v) ex) e I L :=
  ret_1 hr h1 ⟨I, S :: L0, fun _ h => h.incl hL, hJ, S, rfl, hp⟩ hex
theorem px_ret2 {fn : Func} {J : Gh} {L0 : List Seg} {post : Gh → Seg → Value → Prop} {rv rv' : ResultVar} {v v' : Value} (S : Seg) (hr : fn.results = #[rv, rv']) (h1 : resVar P e I L rv v) (h2 : resVar P e I L rv' v') (hJ : J.le I)
    (hL : Incl (S :: L0) L) (hp : post I S (.tuple #[v, v'])) {ex : Exit} (hex : ex = .ret ∨ ex = .normal) : EQ n (bodyPost P fn (Ret fun K N v => J.le K ∧ ∃ S, N = S :: L0 ∧ post K S v) ex) e I L :=
  ret_2 hr h1 h2 ⟨I, S :: L0, fun _ h => h.incl hL, hJ, S, rfl, hp⟩ hex
theorem px_ret0 {fn : Func} {J : Gh} {L0 : List Seg} {post : Gh → Seg → Value → Prop} (S : Seg) (hr : fn.results = #[]) (hJ : J.le I) (hL : Incl (S :: L0) L) (hp : post I S (.tuple #[])) {ex : Exit}
    (hex : ex = .ret ∨ ex = .normal) : EQ n (bodyPost P fn (Ret fun K N v => J.le K ∧ ∃ S, N = S :: L0 ∧ post K S v) ex) e I L :=
  ret_none hr ⟨I, S :: L0, fun _ h => h.incl hL, hJ, S, rfl, hp⟩ hex

/-! rows of the call's own, cut -/
theorem flat_take {sz : Nat} : ∀ {xs : List (List Value)}, (∀ x ∈ xs, x.length = sz) → ∀ i, i ≤ xs.length → xs.flatten.take (i * sz) = (xs.take i).flatten
  | _, _, 0, _ => by simp
  | [], _, i + 1, h => by simp at h
  | x :: r, hx, i + 1, h => by
    have h1 := hx x (by simp)
    simp only [List.flatten_cons, List.take_succ_cons]
    rw [List.take_append, List.take_of_length_le (by rw [h1, Nat.add_mul]; omega), h1, show (i + 1) * sz - sz = i * sz by rw [Nat.add_mul]; omega, flat_take (fun y hy => hx y (by simp [hy])) i (by simpa using h)]
theorem OwnRow.take {a : Option Addr} {m c : Nat} {S : Seg} {T : TypeId} {sz : Nat} {xs : List (List Value)} (h : OwnRow a m c S T sz xs) (i : Nat) (hi : i ≤ m) : OwnRow a i c S T sz (xs.take i) := by
  obtain ⟨h1, h2, h3⟩ := h
  refine ⟨by rw [List.length_take]; omega, fun x hx => h2 x (List.mem_of_mem_take hx), ?_⟩
  rcases h3 with ⟨e1, e2, e3, e4⟩ | ⟨b, cur, e1, e2, e3, e4, e5, e6⟩
  · exact .inl ⟨e1, by omega, e3, e4⟩
  · refine .inr ⟨b, cur, e1, e2, by omega, e4, e5, ?_⟩
    have := flat_take h2 i (by omega)
    rw [← this, ← e6, List.take_take]
    congr 1
    have : i * sz ≤ m * sz := Nat.mul_le_mul_right _ hi
    omega
theorem OwnRow.le {a : Option Addr} {m c : Nat} {S : Seg} {T : TypeId} {sz : Nat} {xs : List (List Value)} (h : OwnRow a m c S T sz xs) : m ≤ c ∧ c ≤ maxLen := by
  obtain ⟨h1, h2, h3⟩ := h
  rcases h3 with ⟨e1, e2, e3, e4⟩ | ⟨b, cur, e1, e2, e3, e4, e5, e6⟩
  · exact ⟨by omega, by rw [e3]; exact Nat.zero_le _⟩
  · exact ⟨e3, e4⟩
theorem OwnRow.some {a : Option Addr} {m c : Nat} {S : Seg} {T : TypeId} {sz : Nat} {xs : List (List Value)} (h : OwnRow a m c S T sz xs) (hm : 0 < m) : a.isSome = true := by
  rcases h.2.2 with ⟨e1, e2, _⟩ | ⟨b, cur, e1, _⟩
  · omega
  · rw [e1]; rfl
theorem OwnRow.nil {a : Option Addr} {m c : Nat} {S : Seg} {T : TypeId} {sz : Nat} {xs : List (List Value)} (h : OwnRow a m c S T sz xs) (ha : a = none) : c = 0 := by
  rcases h.2.2 with ⟨e1, e2, e3, _⟩ | ⟨b, cur, e1, _⟩
  · exact e3
  · rw [e1] at ha; cases ha

/-- clear of what lies behind the elements. -/
theorem ox_clear {t el sz bytes : Nat} {x : Operand} {a : Option Addr} {m c l h : Nat} {S : Seg} {xs : List (List Value)} {z : Value} {L0 : List Seg} (hx : ev e x = some (.slice (if c = l then a else a.map (·.add (l * sz))) (h - l) (c - l)))
    (ht : sliceB P t el sz bytes = true) (hz : (P.info? el).bind (·.zero) = some z) (hzs : z.cells.size = sz) (hz1 : z.cells.toList.all (·.oneCell') = true) (ho : OwnRow a m c S el sz xs) (hL : L.Perm (S :: L0)) (hml : m ≤ l) (hlh : l ≤ h) (hhc : h ≤ c) :
    OX P n ⟨d, .call ⟨.builtin .clear, #[x], #[t]⟩, ty, pos, af, g⟩ e I L fun _ M _ => ∃ S', M = S' :: L0 ∧ OwnRow a m c S' el sz xs := by
  intro J E b w hJ hb hw
  obtain ⟨i, hu, hi, hisz, hiby⟩ := sliceB_spec ht
  have hiz : i.zero = some z := by simpa [hi] using hz
  have hw' : St J (S :: (E ++ L0)) w := hw.perm (List.perm_middle.symm.trans (List.Perm.append_left E hL.symm))
  obtain ⟨h1, h2, h3⟩ := ho
  have hrun : ∀ w' v, (Builtin.clear_ #[t] ty #[.slice (if c = l then a else a.map (·.add (l * sz))) (h - l) (c - l)]).run P w = .ok v w' →
      (execOp b.eval ⟨d, .call ⟨.builtin .clear, #[x], #[t]⟩, ty, pos, af, g⟩).run P w = .ok (.value v) w' := fun w' v hr => by
    simp only [execOp, resolve, List.map_toArray, List.map_cons, List.map_nil, hb.eval hx]
    simp [invoke, builtin, Sem.run_bind, hr]
  rcases h3 with ⟨rfl, e2, rfl, rfl⟩ | ⟨gb, cur, rfl, rfl, e3, e4, e5, e6⟩
  · have : l = 0 := by omega
    subst this
    have : h = 0 := by omega
    subst this
    refine yield_val (w' := w) (v := .tuple #[]) (hrun _ _ (by simp [Builtin.clear_, Sem.run_bind, run_underlying hu, noResult])) ?_
    exact ⟨J, [] :: L0, .refl J, hw'.mid, [], rfl, h1, h2, .inl ⟨rfl, e2, rfl, rfl⟩⟩
  · have hgh : w.heap[gb]? = some (.cells cur el) := hw'.own (gb, .cells cur el) (by simp)
    by_cases hlh' : h - l = 0
    · refine yield_val (w' := w) (v := .tuple #[]) (hrun _ _ ?_) ?_
      · rw [hlh']
        split <;> simp [Builtin.clear_, Sem.run_bind, run_underlying hu, noResult, sizeOf, typeInfo, hi, zeroValue, hiz, Builtin.zeroCells, storeCells]
      · exact ⟨J, _ :: L0, .refl J, hw'.mid, _, rfl, h1, h2, .inr ⟨gb, cur, rfl, rfl, e3, e4, e5, e6⟩⟩
    · have hcl : c ≠ l := by omega
      obtain ⟨zs, hzs'⟩ : ∃ zs, zs = (Builtin.zeroCells z.cells (h - l)).toList := ⟨_, rfl⟩
      have hzl : zs.length = (h - l) * sz := by rw [hzs', Array.length_toList, size_zeroCells, hzs]
      have hfit : l * sz + zs.length ≤ cur.size := by rw [hzl, e5, ← Nat.add_mul]; exact Nat.mul_le_mul_right _ (by omega)
      have hone : ∀ u ∈ zs, u.oneCell' = true := by
        intro u hu'
        rw [hzs', Builtin.zeroCells] at hu'
        simp only [Array.toList_map, List.mem_map] at hu'
        obtain ⟨k, hk, rfl⟩ := hu'
        have hk' : k < (h - l) * z.cells.size := by simpa using hk
        have hpos : 0 < z.cells.size := by
          rcases Nat.eq_zero_or_pos z.cells.size with h0 | h0
          · rw [h0] at hk'; simp at hk'
          · exact h0
        have hmod := Nat.mod_lt k hpos
        rw [getElem!_pos z.cells _ hmod]
        exact List.all_eq_true.1 hz1 _ (by simp)
      have hst := run_storeCells_at P gb (l * sz) el zs 0 cur w hgh (by simpa using hfit) hone
      simp only [Nat.add_zero] at hst
      have hadd : (⟨gb, 0, none⟩ : Addr).add (l * sz) = ⟨gb, l * sz, none⟩ := by rw [addr_add _ rfl]; simp
      refine yield_val (w' := w.setRow gb (cur.toList.take (l * sz) ++ zs ++ cur.toList.drop (l * sz + zs.length)).toArray) (v := .tuple #[]) (hrun _ _ ?_) ?_
      · simp only [hcl, if_false, Option.map_some, hadd]
        simp [Builtin.clear_, Sem.run_bind, run_underlying hu, noResult, sizeOf, typeInfo, hi, hisz, zeroValue, hiz, ← hzs', hst]
      · refine ⟨J, [(gb, .cells (cur.toList.take (l * sz) ++ zs ++ cur.toList.drop (l * sz + zs.length)).toArray el)] :: L0, .refl J, ?_, _, rfl, h1, h2, .inr ⟨gb, _, rfl, rfl, e3, e4, ?_, ?_⟩⟩
        · exact St.mid (hw'.upd (.head .head) (setRow_heap w gb cur _ el (0, 0) hgh) (fun k hk => setRow_other w gb k _ hk) rfl rfl rfl)
        · simp only [List.size_toArray, List.length_append, List.length_take, List.length_drop, Array.length_toList]; omega
        · have hle : m * sz ≤ l * sz := Nat.mul_le_mul_right _ hml
          have hlen : l * sz ≤ cur.toList.length := by rw [Array.length_toList]; omega
          rw [List.append_assoc, List.take_append_of_le_length (by rw [List.length_take]; omega), List.take_take, Nat.min_eq_left hle]
          exact e6
end
end Go.Gl
