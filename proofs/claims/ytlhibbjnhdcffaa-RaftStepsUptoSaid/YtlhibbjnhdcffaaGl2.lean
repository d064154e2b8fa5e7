/- The logic 'Gl', part 2: operations. -/
import Derived.Test.YtlhibbjnhdcffaaGl1
namespace Go.Gl
open Go

theorem Incl.mem {L M : List Seg} (h : Incl L M) {x : Blk} (hx : x ∈ L.flatten) : x ∈ M.flatten := by
  obtain ⟨E, hE⟩ := h
  exact hE.mem_iff.1 (List.mem_append_right _ hx)
theorem Incl.cons {L M : List Seg} (h : Incl L M) (S : Seg) : Incl (S :: L) (S :: M) := by
  obtain ⟨E, hE⟩ := h
  refine ⟨E, ?_⟩
  simp only [List.flatten_cons]
  refine List.Perm.trans ?_ (List.Perm.append_left S hE)
  rw [← List.append_assoc, ← List.append_assoc]
  exact List.Perm.append_right _ List.perm_append_comm
theorem Incl.skip {L M : List Seg} (h : Incl L M) (S : Seg) : Incl L (S :: M) := by
  obtain ⟨E, hE⟩ := h
  refine ⟨S ++ E, ?_⟩
  simp only [List.flatten_cons, List.append_assoc]
  exact List.Perm.append_left S hE

/-- Less frozen is right too. -/
theorem St.less {I J : Gh} {L : List Seg} {w : World} (h : St J L w) (hI : I.le J) : St I L w :=
  ⟨fun b o hb => h.imm b o (hI.imm b o hb), h.own, fun x hx => (by
    cases hi : I.imm x.1 with
    | none => rfl
    | some o => have := hI.imm _ _ hi; rw [h.sep x hx] at this; cases this), h.nodup, h.os.trans hI.os, h.tape.trans hI.tape, h.output.trans hI.output⟩
theorem St.incl {I : Gh} {L M : List Seg} {w : World} (h : St I M w) (hL : Incl L M) : St I L w := h.sub hL

section
variable (P : Program) (n : Nat)

/-- What an operation's result comes to. -/
def yU (R : Value → World → Prop) : Result Next → Prop
  | .ok (.value v) w' => R v w'
  | .ok .skip w' => R undef w'
  | .ok (.enter f args) w' => Calls P f args w' fun e w'' => ∃ v, e = .returned v ∧ R v w''
  | _ => False
/-- One operation comes to something of which R tells. -/
def Yield (o : Oper) (a : Act) (w : World) (R : Value → World → Prop) : Prop := yU P R ((execOp a.eval o).run P w)

/-- Stable: one value, whatever has been frozen or is owned besides. -/
def OS (o : Oper) (e : Env) (I : Gh) (L : List Seg) (v : Value) : Prop :=
  ∀ J M a w, I.le J → Incl L M → Sat n e a → St J M w → Yield P o a w fun u w' => u = v ∧ St J M w'
/-- It makes, and freezes what it has made. -/
def OG (o : Oper) (e : Env) (I : Gh) (L : List Seg) (post : Gh → Value → Prop) : Prop :=
  ∀ J M a w, I.le J → Incl L M → Sat n e a → St J M w → Yield P o a w fun u w' => ∃ K, J.le K ∧ St K M w' ∧ post K u
/-- It makes one block. -/
def OA (o : Oper) (e : Env) (mk : Nat → Value) (obj : Obj) : Prop :=
  ∀ a w, Sat n e a → (execOp a.eval o).run P w = .ok (.value (mk w.heap.size)) { w with heap := w.heap.push obj }
/-- Anything. -/
def OX (o : Oper) (e : Env) (I : Gh) (L : List Seg) (post : Gh → List Seg → Value → Prop) : Prop :=
  ∀ J E a w, I.le J → Sat n e a → St J (E ++ L) w → Yield P o a w fun u w' => ∃ K M, J.le K ∧ St K (E ++ M) w' ∧ post K M u
end

section
variable {P : Program} {n : Nat} {Q : Exit → Act → World → Prop} {e : Env} {I : Gh} {L : List Seg} {o : Oper} {ops : Array Oper} {rest : List Oper}

theorem Yield.mono {a : Act} {w : World} {R R' : Value → World → Prop} (h : Yield P o a w R) (hr : ∀ u w', R u w' → R' u w') : Yield P o a w R' := by
  unfold Yield at *
  generalize (execOp a.eval o).run P w = r at *
  cases r with
  | ok m w' =>
    cases m <;> simp only [yU] at h ⊢
    · exact hr _ _ h
    · exact hr _ _ h
    · exact h.mono fun _ _ ⟨v, he, hv⟩ => ⟨v, he, hr _ _ hv⟩
  | halt x w' => simp [yU] at h
theorem Yield.wp {a : Act} {w : World} {R : Value → World → Prop} (h : Yield P o a w R) {K : Act → World → Prop} (hk : ∀ u w', R u w' → K (a.put o.dst u) w') : o.wp P a w K Q := by
  unfold Yield at h
  unfold Oper.wp
  generalize (execOp a.eval o).run P w = r at *
  cases r with
  | ok m w' =>
    cases m <;> simp only [yU] at h <;> simp only [Oper.upon]
    · exact hk _ _ h
    · exact hk _ _ h
    · exact h.mono fun e _ ⟨v, he, hv⟩ => by subst he; exact hk _ _ hv
  | halt x w' => simp [yU] at h
theorem Yield.congr {a a' : Act} {w : World} {R : Value → World → Prop} (h : Yield P o a w R) (he : execOp a'.eval o = execOp a.eval o) : Yield P o a' w R := by
  unfold Yield at *; rw [he]; exact h

theorem Incl.front (E L : List Seg) : Incl L (E ++ L) := ⟨E.flatten, by simp⟩
theorem OS.ox {v : Value} (h : OS P n o e I L v) : OX P n o e I L fun K M u => M = L ∧ u = v :=
  fun J E a w hJ ha hw => (h J (E ++ L) a w hJ (.front E L) ha hw).mono fun _ _ ⟨hu, hs⟩ => ⟨J, L, .refl J, hs, rfl, hu⟩
theorem OG.ox {post : Gh → Value → Prop} (h : OG P n o e I L post) : OX P n o e I L fun K M u => M = L ∧ post K u :=
  fun J E a w hJ ha hw => (h J (E ++ L) a w hJ (.front E L) ha hw).mono fun _ _ ⟨K, hk, hs, hu⟩ => ⟨K, L, hk, hs, rfl, hu⟩
theorem St.mid {E : List Seg} {S : Seg} {w : World} (h : St I (S :: (E ++ L)) w) : St I (E ++ S :: L) w := h.perm (List.perm_middle)
theorem OA.ox {mk : Nat → Value} {obj : Obj} (h : OA P n o e mk obj) : OX P n o e I L fun K M u => ∃ b, M = [(b, obj)] :: L ∧ u = mk b :=
  fun J E a w _ ha hw => by
    unfold Yield
    rw [h a w ha]
    exact ⟨J, _, .refl J, (hw.alloc obj).mid, _, rfl, rfl⟩

theorem EL_x {post : Gh → List Seg → Value → Prop} (hg : o.guard = none) (hd : dstOk n o.dst = true) (h : OX P n o e I L post)
    (k : ∀ K M u, I.le K → post K M u → EL P n ops rest Q (putE e o.dst u) K M) : EL P n ops (o :: rest) Q e I L :=
  fun a w ha hw => wpList_plain hg fun C hC => (h I [] a w (.refl I) ha hw).wp fun u w' ⟨K, M, hk, hs, hp⟩ => hC _ _ (k K M u hk hp _ _ (ha.put hd u) hs)

theorem EL_s {v : Value} {d : Tmp} (hg : o.guard = none) (hd : o.dst = some d) (hn : Nat.blt d n = true) (h : OS P n o e I L v)
    (k : EL P n ops rest Q ((d, v) :: e) I L) : EL P n ops (o :: rest) Q e I L :=
  EL_x hg (by rw [hd]; exact hn) h.ox fun K _ _ hK ⟨h2, h3⟩ => by subst h2; subst h3; rw [hd]; exact fun a w ha hw => k a w ha (hw.less hK)
theorem EL_g {post : Gh → Value → Prop} {d : Tmp} (hg : o.guard = none) (hd : o.dst = some d) (hn : Nat.blt d n = true) (h : OG P n o e I L post)
    (k : ∀ K u, I.le K → post K u → EL P n ops rest Q ((d, u) :: e) K L) : EL P n ops (o :: rest) Q e I L :=
  EL_x hg (by rw [hd]; exact hn) h.ox fun K _ u hk ⟨h2, h3⟩ => by subst h2; rw [hd]; exact k K u hk h3
theorem EL_a {mk : Nat → Value} {obj : Obj} {d : Tmp} (hg : o.guard = none) (hd : o.dst = some d) (hn : Nat.blt d n = true) (h : OA P n o e mk obj)
    (k : ∀ b, EL P n ops rest Q ((d, mk b) :: e) I ([(b, obj)] :: L)) : EL P n ops (o :: rest) Q e I L :=
  EL_x hg (by rw [hd]; exact hn) h.ox fun K _ _ hK ⟨b, h2, h3⟩ => by subst h2; subst h3; rw [hd]; exact fun a w ha hw => k b a w ha (hw.less hK)

/-- A guarded operation whose guard says yes, no. -/
theorem yielded_env {a : Act} (ha : Sat n e a) {j d : Nat} {b : Bool} (hj : (ops[j]?).bind (·.dst) = some d) (hv : get e d = some (.bool b)) : yielded ops a.tmps j = some b := by
  have := ha.tmps d _ hv
  simp [yielded, hj, this]
theorem yielded_undef {a : Act} (ha : Sat n e a) {j d : Nat} (hj : (ops[j]?).bind (·.dst) = some d) (hv : get e d = some undef) : yielded ops a.tmps j = none := by
  have := ha.tmps d _ hv
  simp [yielded, hj, this, undef]
theorem EL_nou {j d d' : Nat} {b' : Bool} (hg : o.guard = some (j, b')) (hj : (ops[j]?).bind (·.dst) = some d) (hv : get e d = some undef) (hd : o.dst = some d') (hn : Nat.blt d' n = true)
    (h : EL P n ops rest Q ((d', undef) :: e) I L) : EL P n ops (o :: rest) Q e I L := by
  intro a w ha hw
  unfold wpList
  have hw1 : Region.wanted o (yielded ops a.tmps) = false := by
    simp only [Region.wanted, hg, yielded_undef ha hj hv]; rfl
  rw [if_neg (by simp [hw1])]
  have := ha.put (d := o.dst) (by rw [hd]; exact hn) undef
  rw [hd] at this
  rw [hd]
  exact h _ _ this hw
theorem EL_yes {j d : Nat} {b : Bool} (hg : o.guard = some (j, b)) (hj : (ops[j]?).bind (·.dst) = some d) (hv : get e d = some (.bool b))
    (h : EL P n ops ({ o with guard := none } :: rest) Q e I L) : EL P n ops (o :: rest) Q e I L := by
  intro a w ha hw
  have h1 := h a w ha hw
  unfold wpList at h1 ⊢
  have hw1 : Region.wanted o (yielded ops a.tmps) = true := by simp [Region.wanted, hg, yielded_env ha hj hv]
  rw [if_pos hw1]
  rw [if_pos (by simp [Region.wanted])] at h1
  exact h1
theorem EL_no {j d d' : Nat} {b b' : Bool} (hg : o.guard = some (j, b')) (hb : (b == b') = false) (hj : (ops[j]?).bind (·.dst) = some d) (hv : get e d = some (.bool b)) (hd : o.dst = some d') (hn : Nat.blt d' n = true)
    (h : EL P n ops rest Q ((d', undef) :: e) I L) : EL P n ops (o :: rest) Q e I L := by
  intro a w ha hw
  unfold wpList
  have hw1 : Region.wanted o (yielded ops a.tmps) = false := by
    simp only [Region.wanted, hg, yielded_env ha hj hv]
    cases b <;> cases b' <;> simp_all
  rw [if_neg (by simp [hw1])]
  have := ha.put (d := o.dst) (by rw [hd]; exact hn) undef
  rw [hd] at this
  rw [hd]
  exact h _ _ this hw

/-- Freezing, letting go, another order: at any place. -/
theorem EL_weaken {e' : Env} {I' : Gh} {L' : List Seg} (hs : SubE e' e) (hst : ∀ w, St I L w → St I' L' w) (h : EL P n ops rest Q e' I' L') : EL P n ops rest Q e I L :=
  fun a w ha hw => h a w (ha.sub hs) (hst w hw)

/-! ### Yields out of runs -/
theorem yield_val {a : Act} {w w' : World} {v : Value} {R : Value → World → Prop} (hr : (execOp a.eval o).run P w = .ok (.value v) w') (h : R v w') : Yield P o a w R :=
  by unfold Yield; rw [hr]; exact h
theorem yield_skip {a : Act} {w w' : World} {R : Value → World → Prop} (hr : (execOp a.eval o).run P w = .ok .skip w') (h : R undef w') : Yield P o a w R :=
  by unfold Yield; rw [hr]; exact h
theorem yield_enter {a : Act} {w w' : World} {f : FuncId} {args : Array Value} {R : Value → World → Prop} (hr : (execOp a.eval o).run P w = .ok (.enter f args) w')
    (h : Calls P f args w' fun e w'' => ∃ v, e = .returned v ∧ R v w'') : Yield P o a w R :=
  by unfold Yield; rw [hr]; exact h

theorem os_run {v : Value} (h : ∀ a w, Sat n e a → (execOp a.eval o).run P w = .ok (.value v) w) : OS P n o e I L v :=
  fun _ _ a w _ _ ha hw => yield_val (h a w ha) ⟨rfl, hw⟩
theorem os_runm {v : Value} (h : ∀ J M a w, I.le J → Incl L M → Sat n e a → St J M w → (execOp a.eval o).run P w = .ok (.value v) w) : OS P n o e I L v :=
  fun J M a w hJ hM ha hw => yield_val (h J M a w hJ hM ha hw) ⟨rfl, hw⟩
end

/-! ### The operations -/
section
variable {P : Program} {n : Nat} {e : Env} {I : Gh} {L : List Seg} {d : Option Tmp} {ty : TypeId} {pos : String} {af : Array Edge} {g : Option (Nat × Bool)}

theorem os_move {x : Operand} {v : Value} (hx : ev e x = some v) : OS P n ⟨d, .move x, ty, pos, af, g⟩ e I L v :=
  os_run fun a w ha => by simp [execOp, ha.eval hx]
theorem os_assign {x : Operand} {v : Value} (hx : ev e x = some v) : OS P n ⟨d, .assign x, ty, pos, af, g⟩ e I L v :=
  os_run fun a w ha => by simp [execOp, ha.eval hx]
theorem os_pick {c x y : Operand} {b : Bool} {u v : Value} (hc : ev e c = some (.bool b)) (hx : ev e x = some u) (hy : ev e y = some v) :
    OS P n ⟨d, .pick c x y, ty, pos, af, g⟩ e I L (if b then u else v) :=
  os_run fun a w ha => by simp [execOp, ha.eval hc, ha.eval hx, ha.eval hy, asBool]
theorem os_pick_t {c x y : Operand} {u : Value} (hc : ev e c = some (.bool true)) (hx : ev e x = some u) : OS P n ⟨d, .pick c x y, ty, pos, af, g⟩ e I L u :=
  os_run fun a w ha => by simp [execOp, ha.eval hc, ha.eval hx, asBool]
theorem os_pick_f {c x y : Operand} {v : Value} (hc : ev e c = some (.bool false)) (hy : ev e y = some v) : OS P n ⟨d, .pick c x y, ty, pos, af, g⟩ e I L v :=
  os_run fun a w ha => by simp [execOp, ha.eval hc, ha.eval hy, asBool]
theorem os_not {t : TypeId} {x : Operand} {b : Bool} (hx : ev e x = some (.bool b)) : OS P n ⟨d, .unOp .not t x, ty, pos, af, g⟩ e I L (.bool !b) :=
  os_run fun a w ha => by simp [execOp, ha.eval hx, Op.unary]
theorem os_extract {x : Operand} {vs : Array Value} {i : Nat} {v : Value} (hx : ev e x = some (.tuple vs)) (hi : vs[i]? = some v) : OS P n ⟨d, .extract x i, ty, pos, af, g⟩ e I L v :=
  os_run fun a w ha => by simp [execOp, ha.eval hx, Instr.extract, hi]

-- integers
theorem guard_int (op : BinOp) (t : TypeId) (x y : Operand) (k k' : IntKind) (p q : Int) (w : World) : (eqGuard op t x y (.int k p) (.int k' q)).run P w = .ok () w := by
  unfold eqGuard; cases op <;> rfl
theorem run_arith {op : BinOp} {t u : TypeId} {x y : Operand} {k : IntKind} {p q : Int} {v : Value} {a : Act} (ha : Sat n e a) (hx : ev e x = some (.int k p)) (hy : ev e y = some (.int k q))
    (hb : ∀ w, (binOp op t (.int k p) (.int k q)).run P w = .ok v w) (w : World) : (execOp a.eval ⟨d, .binOp op t x y u, ty, pos, af, g⟩).run P w = .ok (.value v) w := by
  simp only [execOp, ha.eval hx, ha.eval hy]
  simp [Sem.run_bind, guard_int, hb, Result.andThen]

theorem os_add {t u : TypeId} {x y : Operand} {k : IntKind} {p q : Int} (hx : ev e x = some (.int k p)) (hy : ev e y = some (.int k q)) :
    OS P n ⟨d, .binOp .add t x y u, ty, pos, af, g⟩ e I L (.int k (k.wrap (p + q))) :=
  os_run fun a w ha => run_arith ha hx hy (fun w => by simp [binOp, Op.intArith]) w
theorem os_sub {t u : TypeId} {x y : Operand} {k : IntKind} {p q : Int} (hx : ev e x = some (.int k p)) (hy : ev e y = some (.int k q)) :
    OS P n ⟨d, .binOp .sub t x y u, ty, pos, af, g⟩ e I L (.int k (k.wrap (p - q))) :=
  os_run fun a w ha => run_arith ha hx hy (fun w => by simp [binOp, Op.intArith]) w
theorem os_mul {t u : TypeId} {x y : Operand} {k : IntKind} {p q : Int} (hx : ev e x = some (.int k p)) (hy : ev e y = some (.int k q)) :
    OS P n ⟨d, .binOp .mul t x y u, ty, pos, af, g⟩ e I L (.int k (k.wrap (p * q))) :=
  os_run fun a w ha => run_arith ha hx hy (fun w => by simp [binOp, Op.intArith]) w
theorem os_lss {t u : TypeId} {x y : Operand} {k : IntKind} {p q : Int} (hx : ev e x = some (.int k p)) (hy : ev e y = some (.int k q)) :
    OS P n ⟨d, .binOp .lss t x y u, ty, pos, af, g⟩ e I L (.bool (decide (p < q))) :=
  os_run fun a w ha => run_arith ha hx hy (fun w => by simp [binOp, Op.intCmp]) w
theorem os_leq {t u : TypeId} {x y : Operand} {k : IntKind} {p q : Int} (hx : ev e x = some (.int k p)) (hy : ev e y = some (.int k q)) :
    OS P n ⟨d, .binOp .leq t x y u, ty, pos, af, g⟩ e I L (.bool (decide (p ≤ q))) :=
  os_run fun a w ha => run_arith ha hx hy (fun w => by simp [binOp, Op.intCmp]) w
theorem os_gtr {t u : TypeId} {x y : Operand} {k : IntKind} {p q : Int} (hx : ev e x = some (.int k p)) (hy : ev e y = some (.int k q)) :
    OS P n ⟨d, .binOp .gtr t x y u, ty, pos, af, g⟩ e I L (.bool (decide (q < p))) :=
  os_run fun a w ha => run_arith ha hx hy (fun w => by simp [binOp, Op.intCmp]) w
theorem os_geq {t u : TypeId} {x y : Operand} {k : IntKind} {p q : Int} (hx : ev e x = some (.int k p)) (hy : ev e y = some (.int k q)) :
    OS P n ⟨d, .binOp .geq t x y u, ty, pos, af, g⟩ e I L (.bool (decide (q ≤ p))) :=
  os_run fun a w ha => run_arith ha hx hy (fun w => by simp [binOp, Op.intCmp]) w
theorem os_eql {t u : TypeId} {x y : Operand} {k : IntKind} {p q : Int} (hx : ev e x = some (.int k p)) (hy : ev e y = some (.int k q)) :
    OS P n ⟨d, .binOp .eql t x y u, ty, pos, af, g⟩ e I L (.bool (decide (p = q))) :=
  os_run fun a w ha => run_arith ha hx hy (fun w => by simp [binOp, Op.intCmp]; rfl) w
theorem os_neq {t u : TypeId} {x y : Operand} {k : IntKind} {p q : Int} (hx : ev e x = some (.int k p)) (hy : ev e y = some (.int k q)) :
    OS P n ⟨d, .binOp .neq t x y u, ty, pos, af, g⟩ e I L (.bool (!decide (p = q))) :=
  os_run fun a w ha => run_arith ha hx hy (fun w => by simp [binOp, Op.intCmp, bne]; rfl) w

end
end Go.Gl
