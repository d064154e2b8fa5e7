/- The logic 'Gl', part 11: elements told by records; guarded pieces of a region, joined; calls that turn several segments; make. Plain library, no program in sight. -/
import Derived.Test.YtlhibbjnhdcffaaGl10
import Derived.Laws.MakeOwn
import Derived.Laws.Append
namespace Go.Gl
open Go

/-! ### Records -/
/-- A slice's head; a slice with what it holds. -/
structure Hd where
  a : Option Addr
  n : Nat
  c : Nat
structure Sl (α : Type) where
  h : Hd
  xs : List α
abbrev Hd.v (h : Hd) : Value := .slice h.a h.n h.c
abbrev Sl.v {α : Type} (s : Sl α) : Value := .slice s.h.a s.h.n s.h.c
def Sl.none {α : Type} : Sl α := ⟨⟨Option.none, 0, 0⟩, []⟩

/-- How values of a type lie in cells. -/
structure Rep (α : Type) where
  sz : Nat
  bys : Nat
  cells : α → List Value
  ok : Gh → α → Prop
  len : ∀ x, (cells x).length = sz
  mono : ∀ {I J : Gh} {x : α}, ok I x → I.le J → ok J x
  one : ∀ x, ∀ v ∈ cells x, v.oneCell' = true
  pos : 0 < sz

/-- A slice that can be read: its elements lie frozen or in L; what they lead to is frozen. -/
structure FRow {α : Type} (R : Rep α) (I : Gh) (L : List Seg) (s : Sl α) : Prop where
  row : Row I L s.h.a s.h.n s.h.c R.sz (s.xs.map R.cells)
  ok : ∀ x ∈ s.xs, R.ok I x
  few : s.xs.length * R.bys ≤ 140737488355328
/-- A slice of one's own. -/
structure OwnR {α : Type} (R : Rep α) (I : Gh) (T : TypeId) (s : Sl α) (S : Seg) : Prop where
  own : OwnRow s.h.a s.h.n s.h.c S T R.sz (s.xs.map R.cells)
  ok : ∀ x ∈ s.xs, R.ok I x
  few : s.xs.length * R.bys ≤ 140737488355328

section
variable {α : Type} {R : Rep α} {I J : Gh} {L M : List Seg} {s : Sl α} {S : Seg} {T : TypeId}
theorem FRow.mono (h : FRow R I L s) (hI : I.le J) (hL : Incl L M) : FRow R J M s := ⟨h.row.mono hI hL, fun x hx => R.mono (h.ok x hx) hI, h.few⟩
theorem FRow.le (h : FRow R I L s) (hI : I.le J) : FRow R J L s := h.mono hI (.refl L)
theorem FRow.up (h : FRow R I [] s) : FRow R I L s := h.mono (.refl I) (.nil L)
theorem FRow.len (h : FRow R I L s) : s.h.n = s.xs.length := by have := h.row.len; simpa using this
theorem FRow.nle (h : FRow R I L s) : s.h.n ≤ s.h.c := h.row.le
theorem FRow.cap (h : FRow R I L s) : s.h.c ≤ maxLen := h.row.cap
theorem FRow.max (h : FRow R I L s) : s.xs.length ≤ maxLen := by have := h.len; have := h.nle; have := h.cap; omega
theorem OwnR.max (h : OwnR R I T s S) : s.xs.length ≤ maxLen := by have h1 := h.own.1; have h2 := h.own.le; simp only [List.length_map] at h1; omega
theorem FRow.some (h : FRow R I L s) (hi : 0 < s.h.n) : s.h.a.isSome = true := h.row.some hi
theorem FRow.whole (h : FRow R I L s) {i : Nat} {x : α} (hx : s.xs[i]? = Option.some x) : Cells I L ((opA s.h.a).add (i * R.sz)) (R.cells x) := h.row.cells (by simp [hx]) (.refl I) (.refl L)
theorem FRow.cell (h : FRow R I L s) {i : Nat} {x : α} (hx : s.xs[i]? = Option.some x) (f : Nat) {v : Value} (hv : (R.cells x)[f]? = Option.some v) : Cells I L (((opA s.h.a).add (i * R.sz)).add f) [v] := (h.whole hx).at f hv
theorem FRow.okAt (h : FRow R I L s) {i : Nat} {x : α} (hx : s.xs[i]? = Option.some x) : R.ok I x := h.ok x (List.mem_of_getElem? hx)
theorem FRow.spot (h : FRow R I L s) {i : Nat} {x : α} (hx : s.xs[i]? = Option.some x) : ((opA s.h.a).add (i * R.sz)).spot = Option.none := by
  have hi := (List.getElem?_eq_some_iff.1 hx).1
  exact h.row.spotAt R.pos (by have := h.len; omega) _
theorem FRow.none (R : Rep α) (I : Gh) (L : List Seg) : FRow R I L ⟨⟨Option.none, 0, 0⟩, []⟩ := ⟨Row.empty I L R.sz, fun x hx => (by cases hx), by simp⟩
theorem FRow.sub (h : FRow R I L s) {l u : Nat} (hl : l ≤ u) (hu : u ≤ s.h.n) : FRow R I L ⟨⟨if s.h.c = l then s.h.a else s.h.a.map (·.add (l * R.sz)), u - l, s.h.c - l⟩, s.xs.extract l u⟩ :=
  ⟨by have := h.row.sub R.pos hl hu; simpa [List.map_take, List.map_drop] using this, fun x hx => h.ok x (List.mem_of_mem_drop (List.mem_of_mem_take hx)), Nat.le_trans (Nat.mul_le_mul_right _ (by simp; omega)) h.few⟩
/-- The part behind l, to the length u, with another cap. -/
theorem FRow.sub3 (h : FRow R I L s) {l u c : Nat} (hl : l ≤ u) (hu : u ≤ s.h.n) (hc : u ≤ c) (hc2 : c ≤ s.h.c) : FRow R I L ⟨⟨if c = l then s.h.a else s.h.a.map (·.add (l * R.sz)), u - l, c - l⟩, s.xs.extract l u⟩ := by
  have h1 := h.row.sub R.pos hl hu
  have h3 := h.row.le
  refine ⟨⟨?_, by simp only; omega, by have := h.cap; simp only; omega, fun ha => ?_, fun i x hx => ?_, fun x hx => ?_⟩, fun x hx => h.ok x (List.mem_of_mem_drop (List.mem_of_mem_take hx)), Nat.le_trans (Nat.mul_le_mul_right _ (by simp; omega)) h.few⟩
  · have := h1.len; simpa [List.map_take, List.map_drop] using this
  · by_cases hcl : c = l
    · simp only; omega
    · simp only [if_neg hcl] at ha
      have : s.h.a = Option.none := by cases hq : s.h.a <;> simp_all
      have := h.row.nil this
      simp only; omega
  · have hx' : ((s.xs.map R.cells).extract l u)[i]? = Option.some x := by simpa [List.map_take, List.map_drop] using hx
    have h2 := h1.at_ i x hx'
    have hi : i < u - l := by have := (List.getElem?_eq_some_iff.1 hx').1; simp at this; omega
    rw [if_neg (by omega)] at h2
    simp only [if_neg (show ¬ c = l by omega)]
    exact h2
  · exact h1.ne x (by simpa [List.map_take, List.map_drop] using hx)
theorem FRow.src (h : FRow R I L s) : Src I L s.h.a s.h.n R.sz (s.xs.map R.cells) := h.row.src R.pos fun v hv => by
  obtain ⟨l, hl, hv⟩ := List.mem_flatten.1 hv
  obtain ⟨x, _, rfl⟩ := List.mem_map.1 hl
  exact R.one x v hv
theorem FRow.nil (h : FRow R I L s) (ha : s.h.a = Option.none) : s.h.c = 0 := h.row.nil ha
theorem OwnR.mono (h : OwnR R I T s S) (hI : I.le J) : OwnR R J T s S := ⟨h.own, fun x hx => R.mono (h.ok x hx) hI, h.few⟩
theorem OwnR.frow (h : OwnR R I T s S) (hS : ∀ x ∈ S, Rd I L x.1 x.2) : FRow R I L s := ⟨h.own.row hS, h.ok, h.few⟩
theorem OwnR.frowS (h : OwnR R I T s S) : FRow R I [S] s := h.frow fun x hx => .inr (by simpa using hx)
theorem OwnR.okAt (h : OwnR R I T s S) {i : Nat} {x : α} (hx : s.xs[i]? = some x) : R.ok I x := h.ok x (List.mem_of_getElem? hx)
theorem OwnR.len (h : OwnR R I T s S) : s.h.n = s.xs.length := by have := h.own.1; simpa using this
theorem OwnR.nle (h : OwnR R I T s S) : s.h.n ≤ s.h.c := h.own.le.1
theorem OwnR.none (R : Rep α) (I : Gh) (T : TypeId) : OwnR R I T ⟨⟨Option.none, 0, 0⟩, []⟩ [] := ⟨OwnRow.empty T R.sz, fun x hx => (by cases hx), by simp⟩
theorem OwnR.spot (h : OwnR R I T s S) (i : Nat) : ((opA s.h.a).add i).spot = Option.none := h.own.spot i
theorem OwnR.spotAt (h : OwnR R I T s S) {i : Nat} {x : α} (hx : s.xs[i]? = Option.some x) : ((opA s.h.a).add (i * R.sz)).spot = Option.none := h.own.spot _
theorem OwnR.some (h : OwnR R I T s S) (hi : 0 < s.h.n) : s.h.a.isSome = true := h.own.some hi
/-- A literal slice, fresh. -/
theorem OwnR.lit {b n : Nat} {cs : List Value} {xs : List α} (hn : n = xs.length) (hc : cs = (xs.map R.cells).flatten) (hm : n ≤ maxLen) (hfew : n * R.bys ≤ 140737488355328) (hok : ∀ x ∈ xs, R.ok I x) : OwnR R I T ⟨⟨Option.some ⟨b, 0, Option.none⟩, n, n⟩, xs⟩ [(b, .cells cs.toArray T)] :=
  ⟨OwnRow.lit (by simpa using hn) (fun x hx => by obtain ⟨y, _, rfl⟩ := List.mem_map.1 hx; exact R.len y) (by simpa using hc) hm, hok, by rw [← hn]; exact hfew⟩
end

/-- Slices as elements. -/
def rSl {α : Type} (R : Rep α) : Rep (Sl α) := ⟨1, 24, fun s => [s.v], fun I s => FRow R I [] s, fun _ => rfl, fun h hI => h.le hI, fun x v hv => by rw [List.mem_singleton.1 hv]; rfl, by decide⟩
def rByte : Rep UInt8 := ⟨1, 1, fun b => [.int .u8 (b.toNat : Int)], fun _ _ => True, fun _ => rfl, fun h _ => h, fun x v hv => by rw [List.mem_singleton.1 hv]; rfl, by decide⟩
def rU64 : Rep Nat := ⟨1, 8, fun b => [.int .u64 (b : Int)], fun _ x => x ≤ 18446744073709551615, fun _ => rfl, fun h _ => h, fun x v hv => by rw [List.mem_singleton.1 hv]; rfl, by decide⟩
def rInt : Rep Int := ⟨1, 8, fun b => [.int .i64 b], fun _ x => -9223372036854775808 ≤ x ∧ x ≤ 9223372036854775807, fun _ => rfl, fun h _ => h, fun x v hv => by rw [List.mem_singleton.1 hv]; rfl, by decide⟩
def rBool : Rep Bool := ⟨1, 1, fun b => [.bool b], fun _ _ => True, fun _ => rfl, fun h _ => h, fun x v hv => by rw [List.mem_singleton.1 hv]; rfl, by decide⟩

/-- A slice of bytes of either make. -/
theorem FRow.bytes {I : Gh} {L : List Seg} {s : Sl UInt8} (h : FRow rByte I L s) : Bytes I L s.h.a s.h.n s.h.c s.xs := h.row
theorem FRow.ofBytes {I : Gh} {L : List Seg} {a : Option Addr} {n c : Nat} {l : List UInt8} (h : Bytes I L a n c l) (hf : l.length ≤ 140737488355328) : FRow rByte I L ⟨⟨a, n, c⟩, l⟩ := ⟨h, fun _ _ => trivial, by simpa [rByte] using hf⟩

/-! ### Guarded pieces, joined -/
section
variable (P : Program) (n : Nat) (ops : Array Oper) (I : Gh) (L : List Seg)
/-- Stable operations one behind the other; some may not be wanted. -/
def Ls (C : Act → Prop) : List Oper → Act → Prop
  | [], a => C a
  | o :: r, a => (Region.wanted o (yielded ops a.tmps) = false → Ls C r (a.put o.dst undef)) ∧ (Region.wanted o (yielded ops a.tmps) = true → ∃ v, aS P o a I L v ∧ Ls C r (a.put o.dst v))
def ES (e' : Env) (os : List Oper) (e : Env) : Prop := ∀ a, Sat n e a → Ls P ops I L (Sat n e') os a
end
section
variable {P : Program} {n : Nat} {ops : Array Oper} {I : Gh} {L : List Seg} {Q : Exit → Act → World → Prop} {e e' : Env} {o : Oper} {os rest : List Oper} {keep : List Seg} {kd : Nat → Kd}
theorem Ls_wpList {C : Act → Prop} (hC : ∀ a w, C a → St I L w → wpList P ops Q rest a w) : ∀ (os : List Oper) (a : Act) (w : World), Ls P ops I L C os a → St I L w → wpList P ops Q (os ++ rest) a w
  | [], a, w, h, hw => hC a w h hw
  | o :: r, a, w, h, hw => by
    simp only [List.cons_append, wpList]
    split
    · rename_i hwant
      obtain ⟨v, hs, hk⟩ := h.2 hwant
      exact .inl ((hs I L w (.refl I) (.refl L) hw).wp fun u w' ⟨hu, hw'⟩ => by subst hu; exact Ls_wpList hC r _ _ hk hw')
    · rename_i hwant
      exact Ls_wpList hC r _ _ (h.1 (by simpa using hwant)) hw
theorem EL_join (k : Nat) (e' : Env) (h : ES P n ops I L e' (rest.take k) e) (hk : EL P n ops (rest.drop k) Q e' I L) : EL P n ops rest Q e I L := fun a w ha hw => by
  rw [← List.take_append_drop k rest]
  exact Ls_wpList (fun a w ha hw => hk a w ha hw) _ a w (h a ha) hw
theorem Ls_Pl {C : Act → Prop} {ys : List Nat} (hC : ∀ a, C a → Pl P ops Q keep kd ys a I L) : ∀ (xs : List Nat) (os : List Oper) (a : Act), xs.map (ops[·]?) = os.map some → (∀ x ∈ xs, kd x = .s) → Ls P ops I L C os a → Pl P ops Q keep kd (xs ++ ys) a I L
  | [], [], a, _, _, h => hC a h
  | [], _ :: _, _, h, _, _ => by simp at h
  | _ :: _, [], _, h, _, _ => by simp at h
  | x :: xs, o :: os, a, hx, hk, h => by
    simp only [List.map_cons, List.cons.injEq] at hx
    intro o' ho'
    have : o' = o := Option.some.inj (ho'.symm.trans hx.1)
    subst this
    refine ⟨fun hw => Ls_Pl hC xs os _ hx.2 (fun y hy => hk y (List.mem_cons_of_mem _ hy)) (h.1 hw), fun hw => ?_⟩
    rw [hk x List.mem_cons_self]
    obtain ⟨v, hs, hc⟩ := h.2 hw
    exact ⟨v, hs, Ls_Pl hC xs os _ hx.2 (fun y hy => hk y (List.mem_cons_of_mem _ hy)) hc⟩
theorem EP_join {pl : List Nat} (k : Nat) (e' : Env) (os : List Oper) (hos : (pl.take k).map (ops[·]?) = os.map some) (hk : (pl.take k).all (fun x => kd x == .s) = true) (h : ES P n ops I L e' os e)
    (hr : EP P n ops Q keep kd (pl.drop k) e' I L) : EP P n ops Q keep kd pl e I L := fun a ha => by
  rw [← List.take_append_drop k pl]
  exact Ls_Pl (fun a ha => hr a ha) _ os a hos (fun x hx => by simpa using List.all_eq_true.1 hk x hx) (h a ha)
theorem ES_nil (h : SubE e' e) : ES P n ops I L e' [] e := fun _ ha => ha.sub h
theorem ES_s {v : Value} {d : Tmp} (hg : o.guard = none) (hd : o.dst = some d) (hn : Nat.blt d n = true) (h : OS P n o e I L v) (k : ES P n ops I L e' os ((d, v) :: e)) : ES P n ops I L e' (o :: os) e := fun a ha => by
  have put : Sat n ((d, v) :: e) (a.put o.dst v) := by
    have := ha.put (d := o.dst) (by rw [hd]; exact hn) v
    rw [hd] at this ⊢; exact this
  exact ⟨fun hw => by simp [Region.wanted, hg] at hw, fun _ => ⟨v, fun J M w hJ hM hw => h J M a w hJ hM ha hw, k _ put⟩⟩
theorem ES_yes {j t : Nat} {b b' : Bool} {v : Value} {d : Tmp} (hg : o.guard = some (j, b)) (hj : (ops[j]?).bind (·.dst) = some t) (hv : get e t = some (.bool b')) (hb : b' = b) (hd : o.dst = some d) (hn : Nat.blt d n = true) (h : OS P n o e I L v)
    (k : ES P n ops I L e' os ((d, v) :: e)) : ES P n ops I L e' (o :: os) e := fun a ha => by
  have put : Sat n ((d, v) :: e) (a.put o.dst v) := by
    have := ha.put (d := o.dst) (by rw [hd]; exact hn) v
    rw [hd] at this ⊢; exact this
  have hw : Region.wanted o (yielded ops a.tmps) = true := by subst hb; simp [Region.wanted, hg, yielded_env ha hj hv]
  exact ⟨fun h => (by rw [hw] at h; cases h), fun _ => ⟨v, fun J M w hJ hM hw => h J M a w hJ hM ha hw, k _ put⟩⟩
theorem ES_no {j t d : Nat} {b b' : Bool} (hg : o.guard = some (j, b')) (hb : b = !b') (hj : (ops[j]?).bind (·.dst) = some t) (hv : get e t = some (.bool b)) (hd : o.dst = some d) (hn : Nat.blt d n = true)
    (k : ES P n ops I L e' os ((d, undef) :: e)) : ES P n ops I L e' (o :: os) e := fun a ha => by
  have put : Sat n ((d, undef) :: e) (a.put o.dst undef) := by
    have := ha.put (d := o.dst) (by rw [hd]; exact hn) undef
    rw [hd] at this ⊢; exact this
  have hw : Region.wanted o (yielded ops a.tmps) = false := by
    simp only [Region.wanted, hg, yielded_env ha hj hv, hb]
    cases b' <;> rfl
  exact ⟨fun _ => k _ put, fun h => (by rw [hw] at h; cases h)⟩
theorem ES_nou {j t d : Nat} {b' : Bool} (hg : o.guard = some (j, b')) (hj : (ops[j]?).bind (·.dst) = some t) (hv : get e t = some undef) (hd : o.dst = some d) (hn : Nat.blt d n = true)
    (k : ES P n ops I L e' os ((d, undef) :: e)) : ES P n ops I L e' (o :: os) e := fun a ha => by
  have put : Sat n ((d, undef) :: e) (a.put o.dst undef) := by
    have := ha.put (d := o.dst) (by rw [hd]; exact hn) undef
    rw [hd] at this ⊢; exact this
  have hw : Region.wanted o (yielded ops a.tmps) = false := by
    simp only [Region.wanted, hg, yielded_undef ha hj hv]; rfl
  exact ⟨fun _ => k _ put, fun h => (by rw [hw] at h; cases h)⟩
theorem ES_case (b : Bool) (ht : b = true → ES P n ops I L e' os e) (hf : b = false → ES P n ops I L e' os e) : ES P n ops I L e' os e := by
  cases hb : b with
  | true => exact ht hb
  | false => exact hf hb
/-- None of these slots is told of there. -/
def freshB (l : List (Nat × Value)) (e : Env) : Bool := l.all fun p => e.all fun q => !Nat.beq q.1 p.1
theorem get_fresh : ∀ (l : List (Nat × Value)) (e : Env) (t : Nat) (v : Value), freshB l e = true → get e t = some v → get (l ++ e) t = some v
  | [], _, _, _, _, h => h
  | (k, u) :: r, e, t, v, hf, h => by
    simp only [freshB, List.all_cons, Bool.and_eq_true] at hf
    rw [List.cons_append, get_cons]
    have hne : k ≠ t := fun he => by
      subst he
      have key : ∀ (e : Env), e.all (fun q => !Nat.beq q.1 k) = true → get e k = none := by
        intro e
        induction e with
        | nil => intro _; rfl
        | cons q r ih =>
          intro hq
          simp only [List.all_cons, Bool.and_eq_true] at hq
          obtain ⟨q1, q2⟩ := q
          rw [get_cons, if_neg (fun he => by subst he; simp at hq)]
          exact ih hq.2
      rw [key e hf.1] at h; cases h
    rw [if_neg hne]
    exact get_fresh r e t v hf.2 h
theorem ES_fin {e1 e2 : Env} {t : Nat} {v : Value} (k : Nat) (he : e2.drop k = e1) (hf : freshB (e2.take k) e1 = true) (hv : get e2 t = some v) : ES P n ops I L ((t, v) :: e1) [] e2 := fun a ha => by
  refine ⟨ha.size, ha.defers, fun s u hu => ?_⟩
  rw [get_cons] at hu
  split at hu
  · rename_i hs
    subst hs
    rw [← Option.some.inj hu]
    exact ha.tmps _ _ hv
  · refine ha.tmps _ _ ?_
    rw [← List.take_append_drop k e2, he]
    exact get_fresh _ _ _ _ hf hu
theorem EL_joint (k : Nat) (t : Nat) (v : Value) (h : ES P n ops I L ((t, v) :: e) (rest.take k) e) (hk : EL P n ops (rest.drop k) Q ((t, v) :: e) I L) : EL P n ops rest Q e I L := EL_join k _ h hk
theorem EP_joint {pl : List Nat} (k : Nat) (t : Nat) (v : Value) (js : List Nat) (hj : pl.take k = js) (hos : js.map (ops[·]?) = (js.filterMap (ops[·]?)).map some) (hk : js.all (fun x => kd x == .s) = true)
    (h : ES P n ops I L ((t, v) :: e) (js.filterMap (ops[·]?)) e) (hr : EP P n ops Q keep kd (pl.drop k) ((t, v) :: e) I L) : EP P n ops Q keep kd pl e I L :=
  EP_join k _ _ (by rw [hj]; exact hos) (by rw [hj]; exact hk) h hr
end

/-! ### Calls that turn several segments -/
/-- A call that turns the owned segments Ss; what it may read besides lies in L. -/
def PN (P : Program) (f : FuncId) (args : Array Value) (I : Gh) (L : List Seg) (Ss : List Seg) (post : Gh → List Seg → Value → Prop) : Prop :=
  ∀ J M, I.le J → Incl L M → FC P f args J (Ss ++ M) fun K N v => J.le K ∧ ∃ Ss', N = Ss' ++ M ∧ post K Ss' v

section
variable {P : Program} {n : Nat} {Q : Exit → Act → World → Prop} {e : Env} {I : Gh} {L : List Seg} {d : Option Tmp} {ty : TypeId} {pos : String} {af : Array Edge} {g : Option (Nat × Bool)} {ops : Array Oper} {rest : List Oper} {o : Oper}
theorem PN.of {f : FuncId} {fn : Func} {c : Code} {args : List Value} {Ss : List Seg} {post : Gh → List Seg → Value → Prop} (hf : P.funcs[f]? = some fn) (hb : fn.body = some c) (hn : fn.ntmps = n) (hle : Nat.ble args.length n = true)
    (h : ∀ J M, I.le J → Incl L M → EW P n c (bodyPost P fn (Ret fun K N v => J.le K ∧ ∃ Ss', N = Ss' ++ M ∧ post K Ss' v)) (envOf 0 args) J (Ss ++ M)) : PN P f args.toArray I L Ss post :=
  fun J M hJ hM => FC.of hf hb hn hle (h J M hJ hM)
theorem PN.mono {f : FuncId} {args : Array Value} {Ss : List Seg} {post post' : Gh → List Seg → Value → Prop} (h : PN P f args I L Ss post) (hp : ∀ K T v, I.le K → post K T v → post' K T v) : PN P f args I L Ss post' :=
  fun J M hJ hM w hw => (h J M hJ hM w hw).mono fun _ _ ⟨K, N, v, he, hs, hk, Ss', hm, hv⟩ => ⟨K, N, v, he, hs, hk, Ss', hm, hp K Ss' v (hJ.trans hk) hv⟩
theorem PN.le {f : FuncId} {args : Array Value} {J : Gh} {M Ss : List Seg} {post : Gh → List Seg → Value → Prop} (h : PN P f args I L Ss post) (hI : I.le J) (hL : Incl L M) : PN P f args J M Ss post :=
  fun K N hK hN => h K N (hI.trans hK) (hL.trans hN)
theorem perm_mid (A B C : List Seg) : (A ++ (B ++ C)).Perm (B ++ (A ++ C)) := by
  rw [← List.append_assoc, ← List.append_assoc]
  exact List.Perm.append_right _ List.perm_append_comm
theorem ox_callN {f : FuncId} {xs : Array Operand} {ts : Array TypeId} {vs : List Value} {Ss L0 : List Seg} {post : Gh → List Seg → Value → Prop} (hb : bodyB P f) (hv : argsE e xs.toList vs) (hL : L.Perm (Ss ++ L0)) (h : PN P f vs.toArray I L0 Ss post) :
    OX P n ⟨d, .call ⟨.value (.func f), xs, ts⟩, ty, pos, af, g⟩ e I L fun K M v => ∃ Ss', M = Ss' ++ L0 ∧ post K Ss' v :=
  ox_call hb hv fun J E hJ w hw => (h J (E ++ L0) hJ (.front E L0) w (hw.perm ((perm_mid Ss E L0).trans (List.Perm.append_left E hL.symm)))).mono fun _ w' ⟨K, N, v, he, hs, hk, Ss', hN, hp⟩ => by
    subst hN
    exact ⟨K, E ++ (Ss' ++ L0), v, he, hs.perm (perm_mid E Ss' L0), hk, Ss' ++ L0, rfl, Ss', rfl, hp⟩
/-- A call that computes and makes; its contract speaks of some of what is owned. -/
theorem PC.in {f : FuncId} {args : Array Value} {L0 : List Seg} {post : Gh → Value → Prop} (h : PC P f args I L0 post) (hL : Incl L0 L) : PC P f args I L post := h.le (.refl I) hL

theorem og_callv {f : FuncId} {x : Operand} {xs : Array Operand} {ts : Array TypeId} {fs cs vs : List Value} {post : Gh → Value → Prop} (hx : ev e x = some (.func (.func f) fs.toArray cs.toArray)) (hb : bodyB P f) (hv : argsE e xs.toList vs)
    (h : PC P f (fs ++ vs ++ cs).toArray I L post) : OG P n ⟨d, .call ⟨.value x, xs, ts⟩, ty, pos, af, g⟩ e I L post :=
  fun J M a w hJ hM ha hw => yield_enter (run_callv ha hx hb hv) ((h J M hJ hM w hw).mono fun en w' ⟨K, M', v, he, hs, hk, hm, hp⟩ => ⟨v, he, K, hk, hm ▸ hs, hp⟩)

-- ends
theorem pn_ret0 {fn : Func} {J : Gh} {L0 : List Seg} {post : Gh → List Seg → Value → Prop} (Ss : List Seg) (hr : fn.results = #[]) (hJ : J.le I) (hL : Incl (Ss ++ L0) L) (hp : post I Ss (.tuple #[])) {ex : Exit}
    (hex : ex = .ret ∨ ex = .normal) : EQ n (bodyPost P fn (Ret fun K N v => J.le K ∧ ∃ Ss', N = Ss' ++ L0 ∧ post K Ss' v) ex) e I L :=
  ret_none hr ⟨I, Ss ++ L0, fun _ h => h.incl hL, hJ, Ss, rfl, hp⟩ hex
theorem pn_ret1 {fn : Func} {J : Gh} {L0 : List Seg} {post : Gh → List Seg → Value → Prop} {rv : ResultVar} {v : Value} (Ss : List Seg) (hr : fn.results = #[rv]) (h1 : resVar P e I L rv v) (hJ : J.le I) (hL : Incl (Ss ++ L0) L) (hp : post I Ss v) {ex : Exit}
    (hex : ex = .ret ∨ ex = .normal) : EQ n (bodyPost P fn (Ret fun K N v => J.le K ∧ ∃ Ss', N = Ss' ++ L0 ∧ post K Ss' v) ex) e I L :=
  ret_1 hr h1 ⟨I, Ss ++ L0, fun _ h => h.incl hL, hJ, Ss, rfl, hp⟩ hex
theorem pn_ret2 {fn : Func} {J : Gh} {L0 : List Seg} {post : Gh → List Seg → Value → Prop} {rv rv' : ResultVar} {v v' : Value} (Ss : List Seg) (hr : fn.results = #[rv, rv']) (h1 : resVar P e I L rv v) (h2 : resVar P e I L rv' v') (hJ : J.le I)
    (hL : Incl (Ss ++ L0) L) (hp : post I Ss (.tuple #[v, v'])) {ex : Exit} (hex : ex = .ret ∨ ex = .normal) : EQ n (bodyPost P fn (Ret fun K N v => J.le K ∧ ∃ Ss', N = Ss' ++ L0 ∧ post K Ss' v) ex) e I L :=
  ret_2 hr h1 h2 ⟨I, Ss ++ L0, fun _ h => h.incl hL, hJ, Ss, rfl, hp⟩ hex
theorem pn_ret3 {fn : Func} {J : Gh} {L0 : List Seg} {post : Gh → List Seg → Value → Prop} {rv rv' rv'' : ResultVar} {v v' v'' : Value} (Ss : List Seg) (hr : fn.results = #[rv, rv', rv'']) (h1 : resVar P e I L rv v) (h2 : resVar P e I L rv' v') (h3 : resVar P e I L rv'' v'')
    (hJ : J.le I) (hL : Incl (Ss ++ L0) L) (hp : post I Ss (.tuple #[v, v', v''])) {ex : Exit} (hex : ex = .ret ∨ ex = .normal) : EQ n (bodyPost P fn (Ret fun K N v => J.le K ∧ ∃ Ss', N = Ss' ++ L0 ∧ post K Ss' v) ex) e I L :=
  ret_3 hr h1 h2 h3 ⟨I, Ss ++ L0, fun _ h => h.incl hL, hJ, Ss, rfl, hp⟩ hex

/-- What is owned, in another order. -/
theorem EL_perm {L' : List Seg} (hp : L'.Perm L) (h : EL P n ops rest Q e I L') : EL P n ops rest Q e I L := fun a w ha hw => h a w ha (hw.perm hp)
theorem EW_perm {c : Code} {L' : List Seg} (hp : L'.Perm L) (h : EW P n c Q e I L') : EW P n c Q e I L := fun a w ha hw => h a w ha (hw.perm hp)
theorem EQ_perm {K0 : Act → World → Prop} {L' : List Seg} (hp : L'.Perm L) (h : EQ n K0 e I L') : EQ n K0 e I L := fun a w ha hw => h a w ha (hw.perm hp)
theorem EW_own {c : Code} {L' : List Seg} (hp : Incl L' L) (h : EW P n c Q e I L') : EW P n c Q e I L := fun a w ha hw => h a w ha (hw.incl hp)
theorem EL_own {L' : List Seg} (hp : Incl L' L) (h : EL P n ops rest Q e I L') : EL P n ops rest Q e I L := fun a w ha hw => h a w ha (hw.incl hp)
theorem EQ_own {K0 : Act → World → Prop} {L' : List Seg} (hp : Incl L' L) (h : EQ n K0 e I L') : EQ n K0 e I L := fun a w ha hw => h a w ha (hw.incl hp)
theorem EQ_sub {K0 : Act → World → Prop} {e' : Env} (hs : SubE e' e) (h : EQ n K0 e' I L) : EQ n K0 e I L := fun a w ha hw => h a w (ha.sub hs) hw

/-! ### More operations -/
theorem os_pick_t' {c x y : Operand} {b : Bool} {u : Value} (hc : ev e c = some (.bool b)) (hb : b = true) (hx : ev e x = some u) : OS P n ⟨d, .pick c x y, ty, pos, af, g⟩ e I L u := by subst hb; exact os_pick_t hc hx
theorem os_pick_f' {c x y : Operand} {b : Bool} {v : Value} (hc : ev e c = some (.bool b)) (hb : b = false) (hy : ev e y = some v) : OS P n ⟨d, .pick c x y, ty, pos, af, g⟩ e I L v := by subst hb; exact os_pick_f hc hy
theorem os_nilCheck {x : Operand} {a : Addr} (hx : ev e x = some (.pointer (some a))) : OS P n ⟨d, .nilCheck x, ty, pos, af, g⟩ e I L (.pointer (some a)) :=
  os_run fun b w hb => by simp [execOp, hb.eval hx]
theorem os_div {t u : TypeId} {x y : Operand} {k k' : IntKind} {p q : Int} (hx : ev e x = some (.int k p)) (hy : ev e y = some (.int k' q)) (hk : k' = k) (hp : 0 ≤ p) (hq : 0 < q) (h : k.wrap (p / q) = p / q) :
    OS P n ⟨d, .binOp .quo t x y u, ty, pos, af, g⟩ e I L (.int k (p / q)) := by
  subst hk
  exact os_run fun a w ha => run_arith ha hx hy (fun w => by
    have h0 : ¬ q = 0 := by omega
    have h1 : p.tdiv q = p / q := Int.tdiv_eq_ediv_of_nonneg hp
    simp [binOp, Op.intDiv, h0, h1, h]) w
theorem os_rem {t u : TypeId} {x y : Operand} {k k' : IntKind} {p q : Int} (hx : ev e x = some (.int k p)) (hy : ev e y = some (.int k' q)) (hk : k' = k) (hq : q ≠ 0) :
    OS P n ⟨d, .binOp .rem t x y u, ty, pos, af, g⟩ e I L (.int k (p.tmod q)) := by
  subst hk
  exact os_run fun a w ha => run_arith ha hx hy (fun w => by simp [binOp, Op.intDiv, hq]) w

/-- make of a length, all zero. -/
theorem oa_makeSlice {t el sz bytes : Nat} {x y : Operand} {k k' : IntKind} {m : Int} {z : Value} (N : Nat) (hx : ev e x = some (.int k m)) (hy : ev e y = some (.int k' m)) (hm : m = (N : Int)) (ht : sliceB P t el sz bytes = true) (hz : (P.info? el).bind (·.zero) = some z)
    (hb : N * bytes ≤ 281474976710656) (h63 : N ≤ maxLen) :
    OA P n ⟨d, .makeSlice t x y, ty, pos, af, g⟩ e (fun b => .slice (some ⟨b, 0, none⟩) N N) (.cells (madeCells z.cells (N * sz)) el) := fun a w ha => by
  obtain ⟨i, hu, hi, hsz, hby⟩ := sliceB_spec ht
  have hiz : i.zero = some z := by simpa [hi] using hz
  subst hm
  have hb' : (i.bytes : Int) * (N : Int) ≤ 281474976710656 := by
    have : ((i.bytes * N : Nat) : Int) ≤ 281474976710656 := by rw [hby, Nat.mul_comm]; omega
    rwa [Int.natCast_mul] at this
  have hr := run_make (P := P) w t el i z hu hi hiz k k' N N (by omega) (Int.le_refl _) hb' (by unfold maxLen at h63; omega)
  simp only [Int.toNat_natCast, hsz] at hr
  simp only [execOp, ha.eval hx, ha.eval hy]
  simp [Sem.run_bind, hr]
theorem made_flat {z : Array Value} {sz N : Nat} (h : z.size = sz) (hs : 0 < sz) : (madeCells z (N * sz)).toList = (List.replicate N z.toList).flatten := by
  induction N with
  | zero => simp [madeCells]
  | succ N ih =>
    rw [List.replicate_succ', List.flatten_append, ← ih]
    simp only [madeCells, Array.toList_map, Array.toList_range, List.flatten_cons, List.flatten_nil, List.append_nil]
    rw [Nat.add_mul, Nat.one_mul, List.range_add, List.map_append]
    congr 1
    apply List.ext_getElem
    · simp [h]
    · intro i h1 h2
      have hi : i < sz := by simpa using h1
      simp only [List.getElem_map, List.getElem_range, h]
      rw [Nat.mul_comm, Nat.mul_add_mod, Nat.mod_eq_of_lt hi, getElem!_pos z i (by omega)]
      simp
theorem OwnR.made {α : Type} {R : Rep α} {I : Gh} {T : TypeId} {b N : Nat} {z : Value} (x : α) (hc : R.cells x = z.cells.toList) (hok : R.ok I x) (h63 : N ≤ maxLen) (hfew : N * R.bys ≤ 140737488355328) :
    OwnR R I T ⟨⟨Option.some ⟨b, 0, Option.none⟩, N, N⟩, List.replicate N x⟩ [(b, .cells (madeCells z.cells (N * R.sz)) T)] := by
  have hsz : z.cells.size = R.sz := by rw [← Array.length_toList, ← hc, R.len]
  refine ⟨OwnRow.lit (by simp) (fun y hy => ?_) ?_ h63, fun y hy => ?_, by simpa using hfew⟩
  · obtain ⟨q, _, rfl⟩ := List.mem_map.1 hy; exact R.len q
  · rw [made_flat hsz R.pos, List.map_replicate, hc]
  · rw [List.eq_of_mem_replicate hy]; exact hok

/-- An element of a slice of one's own, stored whole. -/
theorem ox_set {α : Type} {R : Rep α} {t : TypeId} {x y : Operand} {s : Sl α} {i : Nat} {S : Seg} {T : TypeId} {v : Value} {L0 : List Seg} (x' : α) (hx : ev e x = some (.pointer (some ((opA s.h.a).add (i * R.sz))))) (hy : ev e y = some v)
    (hsz : (P.info? t).map (·.size) = some R.sz) (hv : v.cells.toList = R.cells x') (ho : OwnR R I T s S) (hi : i < s.xs.length) (hok : R.ok I x') (hL : L.Perm (S :: L0)) :
    OX P n ⟨d, .store t x y, ty, pos, af, g⟩ e I L fun _ M _ => ∃ S', M = S' :: L0 ∧ OwnR R I T ⟨s.h, s.xs.set i x'⟩ S' := by
  intro J E a w hJ ha hw
  have e1 := ho.len
  have hvs : v.cells.size = R.sz := by rw [← Array.length_toList, hv, R.len]
  refine (ox_store_row (I := I) (L := L) (L0 := L0) (i := i) (sz := R.sz) (S := S) (T := T) (xs := s.xs.map R.cells) (m := s.h.n) (c := s.h.c) hx hy (by rw [hsz, hvs]) ?_ ?_ ho.own (by omega) hL J E a w hJ ha hw).mono ?_
  · rw [hvs]; exact Nat.beq_refl _
  · rw [List.all_eq_true, hv]; exact R.one x'
  · rintro u w' ⟨K, M, hK, hw', S', rfl, ho'⟩
    refine ⟨K, _, hK, hw', S', rfl, ⟨?_, fun q hq => ?_, by simpa using ho.few⟩⟩
    · have : (s.xs.set i x').map R.cells = (s.xs.map R.cells).set i v.cells.toList := by rw [List.map_set, hv]
      simp only [this]; exact ho'
    · rcases List.mem_or_eq_of_mem_set hq with hq | rfl
      · exact ho.ok q hq
      · exact hok
/-- append to a slice of one's own, in records. -/
theorem ox_app {α : Type} {R : Rep α} {t el bytes : Nat} {x y : Operand} {s s' : Sl α} {S : Seg} {z : Value} {L0 : List Seg} (sz : Nat) (hszR : sz = R.sz) (hby : bytes = R.bys) (hx : ev e x = some s.v) (hy : ev e y = some s'.v) (ht : sliceB P t el sz bytes = true) (hz : (P.info? el).bind (·.zero) = some z) (hzs : z.cells.size = sz)
    (ho : OwnR R I el s S) (hL : L.Perm (S :: L0)) (hs : FRow R I L s') (hbytes : (s.xs.length + s'.xs.length) * bytes ≤ 140737488355328) (hmax : s.xs.length + s'.xs.length ≤ maxLen) :
    OX P n ⟨d, .call ⟨.builtin .append, #[x, y], #[t, t]⟩, ty, pos, af, g⟩ e I L fun _ M v => ∃ (s2 : Sl α) (S' : Seg), M = S' :: L0 ∧ v = s2.v ∧ s2.xs = s.xs ++ s'.xs ∧ OwnR R I el s2 S' := by
  subst hszR
  subst hby
  intro J E a w hJ ha hw
  have e1 := ho.len
  have e2 := hs.len
  refine (ox_append (I := I) (L := L) (L0 := L0) hx hy ht hz hzs R.pos ho.own hL hs.src hs.nil (by rw [e1, e2]; exact hbytes) (by rw [e1, e2]; exact hmax) J E a w hJ ha hw).mono ?_
  rintro u w' ⟨K, M, hK, hw', a'', c'', S', rfl, rfl, ho', _, _⟩
  refine ⟨K, _, hK, hw', ⟨⟨a'', s.h.n + s'.h.n, c''⟩, s.xs ++ s'.xs⟩, S', rfl, rfl, rfl, ⟨by simpa using ho', fun x hx => ?_, by simpa using hbytes⟩⟩
  exact (List.mem_append.1 hx).elim (ho.ok x) (hs.ok x)
/-- append to a slice that is full: a new row. -/
theorem ox_app_new {α : Type} {R : Rep α} {t el bytes : Nat} {x y : Operand} {s s' : Sl α} {z : Value} (sz : Nat) (hszR : sz = R.sz) (hby : bytes = R.bys) (hx : ev e x = some s.v) (hy : ev e y = some s'.v) (ht : sliceB P t el sz bytes = true) (hz : (P.info? el).bind (·.zero) = some z) (hzs : z.cells.size = sz)
    (ho : FRow R I L s) (hfull : s.h.c = s.h.n) (hs : FRow R I L s') (hpos : 0 < s'.xs.length) (hbytes : (s.xs.length + s'.xs.length) * bytes ≤ 140737488355328) (hmax : s.xs.length + s'.xs.length ≤ maxLen) :
    OX P n ⟨d, .call ⟨.builtin .append, #[x, y], #[t, t]⟩, ty, pos, af, g⟩ e I L fun _ M v => ∃ (s2 : Sl α) (S' : Seg), M = S' :: L ∧ v = s2.v ∧ s2.xs = s.xs ++ s'.xs ∧ OwnR R I el s2 S' := by
  subst hszR
  subst hby
  intro J E b w hJ hb hw
  obtain ⟨i, hu, hi, hisz, hiby⟩ := sliceB_spec ht
  have hiz : i.zero = some z := by simpa [hi] using hz
  have e1 := ho.len
  have e2 := hs.len
  obtain ⟨hm1, hys1, hnone1, hone1, hcell1⟩ := ho.src
  obtain ⟨hm', hys, hnone, hone, hcell⟩ := hs.src
  have flen : ∀ zs : List (List Value), (∀ x ∈ zs, x.length = R.sz) → zs.flatten.length = zs.length * R.sz := by
    intro zs hzz
    induction zs with
    | nil => simp
    | cons q r ih => simp only [List.flatten_cons, List.length_append, List.length_cons]; rw [ih (fun y hy => hzz y (by simp [hy])), hzz q (by simp), Nat.add_mul]; omega
  have hxl := flen _ hys1
  have hyl := flen _ hys
  simp only [List.length_map] at hxl hyl
  have hcellw : ∀ j v, (s'.xs.map R.cells).flatten[j]? = some v → w.cell? ((opA s'.h.a).add j) = some v := fun j v hv => hcell j v hv J (E ++ L) w hJ (.front E L) hw
  have hcellx : ∀ j v, (s.xs.map R.cells).flatten[j]? = some v → w.cell? ((opA s.h.a).add j) = some v := fun j v hv => hcell1 j v hv J (E ++ L) w hJ (.front E L) hw
  obtain ⟨a1, ha1⟩ : ∃ a1, s'.h.a = some a1 := by
    cases hq : s'.h.a with
    | none => have := hnone hq; omega
    | some a1 => exact ⟨a1, rfl⟩
  have hge := grownCap_ge w (s.h.n + s'.h.n) s.h.c el
  have grow : ∀ cur, cur = (s.xs.map R.cells).flatten.toArray ++ (s'.xs.map R.cells).flatten.toArray ++ Builtin.zeroCells z.cells (grownCap w (s.h.n + s'.h.n) s.h.c el - (s.h.n + s'.h.n)) →
      (Builtin.append_ #[t, t] ty #[s.v, s'.v]).run P w = .ok (.slice (some ⟨w.heap.size, 0, none⟩) (s.h.n + s'.h.n) (grownCap w (s.h.n + s'.h.n) s.h.c el)) (w.drew.alloc (.cells cur el)) →
      Yield P ⟨d, .call ⟨.builtin .append, #[x, y], #[t, t]⟩, ty, pos, af, g⟩ b w fun u w' => ∃ K M, J.le K ∧ St K (E ++ M) w' ∧ ∃ (s2 : Sl α) (S' : Seg), M = S' :: L ∧ u = s2.v ∧ s2.xs = s.xs ++ s'.xs ∧ OwnR R I el s2 S' := by
    intro cur hcur hr
    refine yield_val (w' := w.drew.alloc (.cells cur el)) (v := .slice (some ⟨w.heap.size, 0, none⟩) (s.h.n + s'.h.n) (grownCap w (s.h.n + s'.h.n) s.h.c el)) (run_v' hb hx hy hr) ?_
    have hcm := grownCap_le_maxLen w (s.h.n + s'.h.n) s.h.c el (by rw [e1, e2]; exact hmax)
    refine ⟨J, [(w.heap.size, .cells cur el)] :: L, .refl J, ?_, ⟨⟨some ⟨w.heap.size, 0, none⟩, s.h.n + s'.h.n, grownCap w (s.h.n + s'.h.n) s.h.c el⟩, s.xs ++ s'.xs⟩, _, rfl, rfl, rfl, ⟨⟨by simp [e1, e2], fun q hq => ?_, .inr ⟨w.heap.size, cur, rfl, rfl, hge, hcm, ?_, ?_⟩⟩, fun x hx => (List.mem_append.1 hx).elim (ho.ok x) (hs.ok x), by simpa using hbytes⟩⟩
    · refine St.perm (M := [(w.heap.size, .cells cur el)] :: (E ++ L)) ?_ List.perm_middle
      exact (hw.drawn (w.drawn + 1)).alloc _
    · obtain ⟨y, _, rfl⟩ := List.mem_map.1 hq; exact R.len y
    · rw [hcur]; simp only [Array.size_append, List.size_toArray, size_zeroCells, hzs, hxl, hyl, ← Nat.add_mul]
      refine congrArg (· * R.sz) ?_
      show s.xs.length + s'.xs.length + (grownCap w (s.h.n + s'.h.n) s.h.c el - (s.h.n + s'.h.n)) = grownCap w (s.h.n + s'.h.n) s.h.c el
      have e3 : (List.map R.cells s'.xs).length = s'.xs.length := by simp
      generalize grownCap w (s.h.n + s'.h.n) s.h.c el = gc at *
      omega
    · rw [hcur]; simp only [Array.toList_append, List.append_assoc, List.map_append, List.flatten_append]
      rw [← List.append_assoc, show (s.h.n + s'.h.n) * R.sz = ((s.xs.map R.cells).flatten ++ (s'.xs.map R.cells).flatten).length by rw [List.length_append, hxl, hyl, e1, e2, Nat.add_mul]]
      exact List.take_left
  have hbytes' : (s.h.n + s'.h.n) * i.bytes ≤ 140737488355328 := by rw [e1, e2, hiby]; exact hbytes
  have hmax' : s.h.n + s'.h.n ≤ maxLen := by rw [e1, e2]; exact hmax
  cases hq : s.h.a with
  | some a0 =>
    have hr := run_append_grow (P := P) w t ty el i z hu hi hiz a0 s.h.n s.h.c (s.xs.map R.cells).flatten (by rw [hxl, e1, hisz]) (by simpa [opA, hq] using hcellx) a1 s'.h.n s'.h.c (s'.xs.map R.cells).flatten (by rw [hyl, e2, hisz]) (by simpa [opA, ha1] using hcellw) (by omega)
      (by unfold maxLen at hmax'; omega) (growslice_fits (by omega) hbytes')
    exact grow _ rfl (by simpa [Sl.v, hq, ha1] using hr)
  | none =>
    have h0 := hnone1 hq
    have hx0 : s.xs = [] := List.eq_nil_of_length_eq_zero (by omega)
    have hr := run_append_nil (P := P) w t ty el i z hu hi hiz a1 s'.h.n s'.h.c (s'.xs.map R.cells).flatten (by rw [hyl, e2, hisz]) (by simpa [opA, ha1] using hcellw) (by omega) (by unfold maxLen at hmax'; omega) (by rw [h0] at hbytes'; simp only [Nat.zero_add] at hbytes'; omega)
    exact grow _ rfl (by simpa [Sl.v, hq, ha1, hfull, h0, hx0] using hr)
end
/-! ### Parts of slices, by name -/
def subSl {α : Type} (sz : Nat) (s : Sl α) (l h : Nat) : Sl α := ⟨⟨if s.h.c = l then s.h.a else s.h.a.map (·.add (l * sz)), h - l, s.h.c - l⟩, s.xs.extract l h⟩
def subSl3 {α : Type} (sz : Nat) (s : Sl α) (l h c : Nat) : Sl α := ⟨⟨if c = l then s.h.a else s.h.a.map (·.add (l * sz)), h - l, c - l⟩, s.xs.extract l h⟩
theorem FRow.subS {α : Type} {R : Rep α} {I : Gh} {L : List Seg} {s : Sl α} (sz : Nat) (hsz : sz = R.sz) (h : FRow R I L s) {l u : Nat} (hl : l ≤ u) (hu : u ≤ s.h.n) : FRow R I L (subSl sz s l u) := by subst hsz; exact h.sub hl hu
theorem FRow.subS3 {α : Type} {R : Rep α} {I : Gh} {L : List Seg} {s : Sl α} (sz : Nat) (hsz : sz = R.sz) (h : FRow R I L s) {l u c : Nat} (hl : l ≤ u) (hu : u ≤ s.h.n) (hc : u ≤ c) (hc2 : c ≤ s.h.c) : FRow R I L (subSl3 sz s l u c) := by subst hsz; exact h.sub3 hl hu hc hc2
theorem incl_mid (A B C : List Seg) : Incl B (A ++ (B ++ C)) := ⟨A.flatten ++ C.flatten, by
  simp only [List.flatten_append]
  rw [List.append_assoc]
  exact List.Perm.append_left _ List.perm_append_comm⟩
/-- Some of what stands ahead of the rest. -/
theorem Incl.sub_base {A B M : List Seg} (h : Incl A B) : Incl A (B ++ M) := h.trans ⟨M.flatten, by rw [List.flatten_append]; exact List.perm_append_comm⟩
theorem nil_perm (L : List Seg) : L.Perm (L) := .refl _
section
variable {P : Program} {n : Nat} {e : Env} {I : Gh} {L : List Seg} {d : Option Tmp} {ty : TypeId} {pos : String} {af : Array Edge} {g : Option (Nat × Bool)}
theorem os_slice3z {t : TypeId} {x z u : Operand} {a : Option Addr} {m c : Nat} {k2 k3 : IntKind} {z2 z3 : Int} {el sz bytes : Nat} (h mx : Nat) (hx : ev e x = some (.slice a m c)) (hz : ev e z = some (.int k2 z2)) (hu : ev e u = some (.int k3 z3))
    (ht : sliceB P t el sz bytes = true) (h2 : z2 = (h : Int)) (h3 : z3 = (mx : Int)) (hhm : h ≤ mx) (hmc : mx ≤ c) :
    OS P n ⟨d, .slice t x none (some z) (some u), ty, pos, af, g⟩ e I L (.slice (if mx = 0 then a else a.map (·.add (0 * sz))) (h - 0) (mx - 0)) :=
  os_run fun b w hb => by
    obtain ⟨inf, hu', hinf, hsz, _⟩ := sliceB_spec ht
    subst h2; subst h3
    have e2 : (h : Int) ≤ (mx : Int) := by omega
    have e3 : (mx : Int) ≤ (c : Int) := by omega
    simp [execOp, hb.eval hx, hb.eval hz, hb.eval hu, Instr.sliceAt, Instr.slice, Instr.sliceBounds, Instr.sliceBound, asIntOf, Sem.run_bind, run_underlying hu', sizeOf, typeInfo, hinf, hsz, hhm, hmc]
-- numbers that are no less than zero
theorem os_addn {t u : TypeId} {x y : Operand} {k : IntKind} {p q : Nat} (hx : ev e x = some (.int k (p : Int))) (hy : ev e y = some (.int k (q : Int))) (h : k.wrap ((p + q : Nat) : Int) = ((p + q : Nat) : Int)) :
    OS P n ⟨d, .binOp .add t x y u, ty, pos, af, g⟩ e I L (.int k ((p + q : Nat) : Int)) := by
  have := os_add (P := P) (n := n) (I := I) (L := L) (d := d) (ty := ty) (pos := pos) (af := af) (g := g) (t := t) (u := u) hx hy
  rwa [show (p : Int) + (q : Int) = ((p + q : Nat) : Int) by omega, h] at this
theorem os_subn {t u : TypeId} {x y : Operand} {k : IntKind} {p q : Nat} (hx : ev e x = some (.int k (p : Int))) (hy : ev e y = some (.int k (q : Int))) (hq : q ≤ p) (h : k.wrap ((p - q : Nat) : Int) = ((p - q : Nat) : Int)) :
    OS P n ⟨d, .binOp .sub t x y u, ty, pos, af, g⟩ e I L (.int k ((p - q : Nat) : Int)) := by
  have := os_sub (P := P) (n := n) (I := I) (L := L) (d := d) (ty := ty) (pos := pos) (af := af) (g := g) (t := t) (u := u) hx hy
  rwa [show (p : Int) - (q : Int) = ((p - q : Nat) : Int) by omega, h] at this
theorem os_muln {t u : TypeId} {x y : Operand} {k : IntKind} {p q : Nat} (hx : ev e x = some (.int k (p : Int))) (hy : ev e y = some (.int k (q : Int))) (h : k.wrap ((p * q : Nat) : Int) = ((p * q : Nat) : Int)) :
    OS P n ⟨d, .binOp .mul t x y u, ty, pos, af, g⟩ e I L (.int k ((p * q : Nat) : Int)) := by
  have := os_mul (P := P) (n := n) (I := I) (L := L) (d := d) (ty := ty) (pos := pos) (af := af) (g := g) (t := t) (u := u) hx hy
  rwa [← Int.natCast_mul, h] at this
theorem os_maxn {x y : Operand} {ts : Array TypeId} {k : IntKind} {p q : Nat} (hx : ev e x = some (.int k (p : Int))) (hy : ev e y = some (.int k (q : Int))) :
    OS P n ⟨d, .call ⟨.builtin .max, #[x, y], ts⟩, ty, pos, af, g⟩ e I L (.int k ((max p q : Nat) : Int)) := by
  have := os_max2 (P := P) (n := n) (I := I) (L := L) (d := d) (ty := ty) (pos := pos) (af := af) (g := g) (ts := ts) hx hy
  rwa [show (if (q : Int) > (p : Int) then (q : Int) else (p : Int)) = ((max p q : Nat) : Int) by split <;> omega] at this
theorem os_minn {x y : Operand} {ts : Array TypeId} {k : IntKind} {p q : Nat} (hx : ev e x = some (.int k (p : Int))) (hy : ev e y = some (.int k (q : Int))) :
    OS P n ⟨d, .call ⟨.builtin .min, #[x, y], ts⟩, ty, pos, af, g⟩ e I L (.int k ((min p q : Nat) : Int)) := by
  have := os_min2 (P := P) (n := n) (I := I) (L := L) (d := d) (ty := ty) (pos := pos) (af := af) (g := g) (ts := ts) hx hy
  rwa [show (if (q : Int) < (p : Int) then (q : Int) else (p : Int)) = ((min p q : Nat) : Int) by split <;> omega] at this
theorem os_convn {s t : TypeId} {x : Operand} {k k' : IntKind} {p : Nat} (hx : ev e x = some (.int k (p : Int))) (hs : ∃ q, P.underlying s = some (.int q)) (ht : P.underlying t = some (.int k')) (h : k'.wrap (p : Int) = (p : Int)) :
    OS P n ⟨d, .convert s t x, ty, pos, af, g⟩ e I L (.int k' (p : Int)) := os_conv_in hx hs ht h
theorem os_toNat {o : Oper} {k : IntKind} {z : Int} (h : OS P n o e I L (.int k z)) (hz : 0 ≤ z) : OS P n o e I L (.int k (z.toNat : Int)) := by rwa [Int.toNat_of_nonneg hz]
end
theorem ox_app_nil {α : Type} {R : Rep α} {P : Program} {n : Nat} {e : Env} {I : Gh} {L : List Seg} {d : Option Tmp} {ty : TypeId} {pos : String} {af : Array Edge} {g : Option (Nat × Bool)} {t el bytes : Nat} {x y : Operand} {s' : Sl α} {z : Value} (sz : Nat) (hszR : sz = R.sz) (hby : bytes = R.bys)
    (hx : ev e x = some (.slice none 0 0)) (hy : ev e y = some s'.v) (ht : sliceB P t el sz bytes = true) (hz : (P.info? el).bind (·.zero) = some z) (hzs : z.cells.size = sz)
    (hs : FRow R I L s') (hmax : s'.xs.length ≤ maxLen) :
    OX P n ⟨d, .call ⟨.builtin .append, #[x, y], #[t, t]⟩, ty, pos, af, g⟩ e I L fun _ M v => ∃ (s2 : Sl α) (S' : Seg), M = S' :: L ∧ v = s2.v ∧ s2.xs = s'.xs ∧ OwnR R I el s2 S' := fun J E a w hJ ha hw =>
  (ox_app (s := (⟨⟨none, 0, 0⟩, []⟩ : Sl α)) (S := []) (L := [] :: L) (L0 := L) sz hszR hby hx hy ht hz hzs (OwnR.none R I el) (.refl _) (hs.mono (.refl I) (.of_nil (.refl L))) (by have := hs.few; subst hby; simpa using this) (by simpa using hmax) J E a w hJ ha (hw.flat (by simp))).mono
    fun _ _ ⟨K, M, hK, hw', s2, S', hM, hv, hx2, ho⟩ => ⟨K, M, hK, hw', s2, S', hM, hv, by simpa using hx2, ho⟩
theorem aX.perm {P : Program} {o : Oper} {a : Act} {I : Gh} {L L' : List Seg} {post : Gh → List Seg → Value → Prop} (h : aX P o a I L' post) (hp : L'.Perm L) : aX P o a I L post := fun J E w hJ hw => h J E w hJ (hw.perm (List.Perm.append_left E hp))
theorem Incl.perm {L L' : List Seg} (hp : L'.Perm L) : Incl L' L := ⟨[], by simpa using hp.flatten⟩
theorem Pl_perm {P : Program} {ops : Array Oper} {Q : Exit → Act → World → Prop} {keep : List Seg} {kd : Nat → Kd} : ∀ (pl : List Nat) (a : Act) (I : Gh) (L L' : List Seg), L'.Perm L → Pl P ops Q keep kd pl a I L' → Pl P ops Q keep kd pl a I L
  | [], _, _, _, _, hp, h => fun w hw => h w (hw.perm hp)
  | j :: r, a, I, L, L', hp, h => fun o ho => by
    obtain ⟨h1, h2⟩ := h o ho
    refine ⟨fun hw => Pl_perm r _ _ _ _ hp (h1 hw), fun hw => ?_⟩
    have h3 := h2 hw
    cases hk : kd j <;> rw [hk] at h3 <;> simp only at h3 ⊢
    · obtain ⟨v, hs, hc⟩ := h3; exact ⟨v, hs.mono (.refl I) (.perm hp), Pl_perm r _ _ _ _ hp hc⟩
    · obtain ⟨v, hs, hc⟩ := h3; exact ⟨v, hs.mono (.refl I) (.perm hp), fun K u hK hq => Pl_perm r _ _ _ _ hp (hc K u hK hq)⟩
    · obtain ⟨v, ob, hs, hc⟩ := h3; exact ⟨v, ob, hs, fun b => Pl_perm r _ _ _ _ (hp.cons _) (hc b)⟩
    · obtain ⟨v, hs, hc⟩ := h3; exact ⟨v, hs.perm hp, hc⟩
    · obtain ⟨v, hs, hin, hc⟩ := h3; exact ⟨v, hs, hin.trans (.perm hp), Pl_perm r _ _ _ _ hp hc⟩
    · obtain ⟨v, hs, hke, hc⟩ := h3; exact ⟨v, hs.perm hp, hke, hc⟩
theorem EP_perm {P : Program} {n : Nat} {ops : Array Oper} {Q : Exit → Act → World → Prop} {keep : List Seg} {kd : Nat → Kd} {pl : List Nat} {e : Env} {I : Gh} {L L' : List Seg} (hp : L'.Perm L) (h : EP P n ops Q keep kd pl e I L') : EP P n ops Q keep kd pl e I L :=
  fun a ha => Pl_perm pl a I L L' hp (h a ha)
theorem os_strindex {P : Program} {n : Nat} {e : Env} {I : Gh} {L : List Seg} {d : Option Tmp} {ty : TypeId} {pos : String} {af : Array Edge} {g : Option (Nat × Bool)} {t : TypeId} {x y : Operand} {s : ByteArray} {k : IntKind} {i : Nat} (hx : ev e x = some (.string s)) (hy : ev e y = some (.int k (i : Int))) (ht : P.underlying t = some .string) (h : i < s.size) :
    OS P n ⟨d, .index t x y, ty, pos, af, g⟩ e I L (.int .u8 ((s[i]).toNat : Int)) :=
  os_run fun a w ha => by
    have h1 : s[i]? = some s[i] := by simp [h]
    simp [execOp, ha.eval hx, ha.eval hy, Instr.index, asIntOf, Sem.run_bind, run_underlying ht, h1]
/-- A turn of what is owned that keeps what is to be kept. -/
theorem EP_ku {P : Program} {n : Nat} {ops : Array Oper} {Q : Exit → Act → World → Prop} {keep : List Seg} {kd : Nat → Kd} {r : List Nat} {e : Env} {I : Gh} {L L' : List Seg} {o : Oper} {j : Nat} (hj : ops[j]? = some o) (hk : kd j = .y) (hg : o.guard = none) (hd : o.dst = none)
    (h : OX P n o e I L fun _ M _ => M = L') (hke : Incl keep L') (k : EP P n ops Q keep kd r e I L') : EP P n ops Q keep kd (j :: r) e I L :=
  EP_kz hj hk hg hd h (fun _ _ hM => hM ▸ hke) fun _ _ hM => hM ▸ k
/-- Anything that keeps what is to be kept, with what it freezes. -/
theorem EP_kx {P : Program} {n : Nat} {ops : Array Oper} {Q : Exit → Act → World → Prop} {keep : List Seg} {kd : Nat → Kd} {r : List Nat} {e : Env} {I : Gh} {L : List Seg} {o : Oper} {j : Nat} {post : Gh → List Seg → Value → Prop} (hj : ops[j]? = some o) (hk : kd j = .y) (hg : o.guard = none) (hd : dstOk n o.dst = true)
    (h : OX P n o e I L post) (hke : ∀ K M u, post K M u → Incl keep M) (k : ∀ K M u, I.le K → post K M u → EP P n ops Q keep kd r (putE e o.dst u) K M) : EP P n ops Q keep kd (j :: r) e I L := by
  intro a ha o' ho'
  have : o' = o := Option.some.inj (ho'.symm.trans hj)
  subst this
  refine ⟨fun hw => by simp [Region.wanted, hg] at hw, fun _ => ?_⟩
  rw [hk]
  exact ⟨post, fun J E w hJ hw => h J E a w hJ ha hw, hke, fun K M u hK hp => k K M u hK hp _ (ha.put hd u)⟩
theorem EL_i {P : Program} {n : Nat} {Q : Exit → Act → World → Prop} {ops : Array Oper} {rest : List Oper} {e : Env} {I : Gh} {L : List Seg} {o : Oper} {k : IntKind} {B : Nat} {dd : Tmp} (hg : o.guard = none) (hd : o.dst = some dd) (hn : Nat.blt dd n = true) (h : ∃ m : Nat, m < B ∧ OS P n o e I L (.int k (m : Int)))
    (c : ∀ m : Nat, m < B → EL P n ops rest Q ((dd, .int k (m : Int)) :: e) I L) : EL P n ops (o :: rest) Q e I L := by
  obtain ⟨m, hm, hO⟩ := h
  exact EL_s hg hd hn hO (c m hm)
theorem os_strindexE {P : Program} {n : Nat} {e : Env} {I : Gh} {L : List Seg} {d : Option Tmp} {ty : TypeId} {pos : String} {af : Array Edge} {g : Option (Nat × Bool)} {t : TypeId} {x y : Operand} {s : ByteArray} {k : IntKind} {i : Nat} (N : Nat) (hx : ev e x = some (.string s)) (hy : ev e y = some (.int k (i : Int))) (ht : P.underlying t = some .string) (hN : s.size = N) (h : i < N) :
    ∃ m : Nat, m < 256 ∧ OS P n ⟨d, .index t x y, ty, pos, af, g⟩ e I L (.int .u8 (m : Int)) := ⟨_, UInt8.toNat_lt _, os_strindex hx hy ht (by rw [hN]; exact h)⟩
end Go.Gl
