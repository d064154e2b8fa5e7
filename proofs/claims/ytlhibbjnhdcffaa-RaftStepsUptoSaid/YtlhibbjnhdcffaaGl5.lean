/- The logic 'Gl', part 5: slices; append. -/
import Derived.Test.YtlhibbjnhdcffaaGl4
namespace Go.Gl
open Go

def opA (a : Option Addr) : Addr := a.getD ⟨0, 0, none⟩

/-- A slice whose elements lie frozen, or in what is owned. -/
structure Row (I : Gh) (L : List Seg) (a : Option Addr) (n c : Nat) (sz : Nat) (xs : List (List Value)) : Prop where
  len : n = xs.length
  le : n ≤ c
  cap : c ≤ maxLen
  nil : a = none → c = 0
  at_ : ∀ i x, xs[i]? = some x → Cells I L ((opA a).add (i * sz)) x
  ne : ∀ x ∈ xs, x.length = sz

theorem Row.mono {I J : Gh} {L M : List Seg} {a : Option Addr} {n c sz : Nat} {xs : List (List Value)} (h : Row I L a n c sz xs) (hI : I.le J) (hL : Incl L M) : Row J M a n c sz xs :=
  ⟨h.len, h.le, h.cap, h.nil, fun i x hx => (h.at_ i x hx).mono hI hL, h.ne⟩
theorem Row.le' {I J : Gh} {L : List Seg} {a : Option Addr} {n c sz : Nat} {xs : List (List Value)} (h : Row I L a n c sz xs) (hI : I.le J) : Row J L a n c sz xs := h.mono hI (.refl L)
theorem Incl.nil (L : List Seg) : Incl [] L := ⟨L.flatten, by simp⟩
theorem Row.cells {I J : Gh} {L M : List Seg} {a : Option Addr} {n c sz : Nat} {xs : List (List Value)} (h : Row I L a n c sz xs) {i : Nat} {x : List Value} (hx : xs[i]? = some x) (hI : I.le J) (hL : Incl L M) : Cells J M ((opA a).add (i * sz)) x :=
  (h.at_ i x hx).mono hI hL
theorem Row.up {I : Gh} {L : List Seg} {a : Option Addr} {n c sz : Nat} {xs : List (List Value)} (h : Row I [] a n c sz xs) : Row I L a n c sz xs := h.mono (.refl I) (.nil L)
theorem Row.some {I : Gh} {L : List Seg} {a : Option Addr} {n c sz : Nat} {xs : List (List Value)} (h : Row I L a n c sz xs) (hi : 0 < n) : a.isSome = true := by
  cases a with
  | none => have := h.nil rfl; have := h.le; omega
  | some a => rfl
theorem Row.empty (I : Gh) (L : List Seg) (sz : Nat) : Row I L none 0 0 sz [] := ⟨rfl, Nat.le_refl _, Nat.zero_le _, fun _ => rfl, fun i x hx => by simp at hx, fun x hx => by cases hx⟩
theorem Row.spot {I : Gh} {L : List Seg} {a : Option Addr} {n c sz : Nat} {xs : List (List Value)} (h : Row I L a n c sz xs) (hsz : 0 < sz) (hn : 0 < n) : (opA a).spot = none := by
  cases xs with
  | nil => have := h.len; simp at this; omega
  | cons x r =>
    have hx := h.at_ 0 x rfl
    have hl := h.ne x (by simp)
    rcases hx with hx | ⟨c, T, fr, h1, _⟩
    · subst hx; simp at hl; omega
    · simpa [Addr.add] using h1

theorem add_add (a : Addr) (h : a.spot = none) (i j : Nat) : (a.add i).add j = a.add (i + j) := by
  rw [addr_add a h, addr_add _ rfl, addr_add a h, Nat.add_assoc]

/-- The part l:h of a slice. -/
theorem Row.sub {I : Gh} {L : List Seg} {a : Option Addr} {n c sz : Nat} {xs : List (List Value)} (h : Row I L a n c sz xs) (hsz : 0 < sz) {l u : Nat} (hl : l ≤ u) (hu : u ≤ n) :
    Row I L (if c = l then a else a.map (·.add (l * sz))) (u - l) (c - l) sz (xs.extract l u) := by
  have hlen := h.len
  have hle := h.le
  refine ⟨by simp; omega, by omega, by have := h.cap; omega, fun ha => ?_, fun i x hx => ?_, fun x hx => h.ne x (List.mem_of_mem_drop (List.mem_of_mem_take hx))⟩
  · by_cases hc : c = l
    · omega
    · rw [if_neg hc] at ha
      have : a = none := by cases a <;> simp_all
      have := h.nil this; omega
  · have hx' : xs[l + i]? = Option.some x ∧ i < u - l := by
      change ((xs.drop l).take (u - l))[i]? = _ at hx
      rw [List.getElem?_take] at hx
      split at hx
      · rw [List.getElem?_drop] at hx; exact ⟨hx, by assumption⟩
      · cases hx
    obtain ⟨hx1, hi⟩ := hx'
    have hlt : l + i < n := by omega
    have hs := h.spot hsz (by omega)
    rw [if_neg (by omega)]
    have h1 := h.at_ _ x hx1
    cases a with
    | none => have := h.nil rfl; omega
    | some a =>
      simp only [opA, Option.map_some, Option.getD_some] at hs h1 ⊢
      rw [add_add _ hs]
      rw [← Nat.add_mul]; exact h1

/-! A slice of the call's own, that grows: its segment. -/
def OwnRow (a : Option Addr) (n c : Nat) (S : Seg) (T : TypeId) (sz : Nat) (xs : List (List Value)) : Prop :=
  n = xs.length ∧ (∀ x ∈ xs, x.length = sz) ∧
  ((a = none ∧ n = 0 ∧ c = 0 ∧ S = []) ∨
   ∃ b cur, a = some ⟨b, 0, none⟩ ∧ S = [(b, .cells cur T)] ∧ n ≤ c ∧ c ≤ maxLen ∧ cur.size = c * sz ∧ cur.toList.take (n * sz) = xs.flatten)

theorem OwnRow.empty (T : TypeId) (sz : Nat) : OwnRow none 0 0 [] T sz [] := ⟨rfl, fun _ h => (by cases h), .inl ⟨rfl, rfl, rfl, rfl⟩⟩
theorem OwnRow.lit {b n : Nat} {T : TypeId} {sz : Nat} {cur : Array Value} {xs : List (List Value)} (hn : n = xs.length) (hx : ∀ x ∈ xs, x.length = sz) (hc : cur.toList = xs.flatten) (hm : n ≤ maxLen) :
    OwnRow (some ⟨b, 0, none⟩) n n [(b, .cells cur T)] T sz xs := by
  have hl : xs.flatten.length = n * sz := by
    subst hn
    clear hc hm
    induction xs with
    | nil => simp
    | cons x r ih =>
      simp only [List.flatten_cons, List.length_append, List.length_cons]
      rw [ih (fun y hy => hx y (by simp [hy])), hx x (by simp), Nat.add_mul]; omega
  refine ⟨hn, hx, .inr ⟨b, cur, rfl, rfl, Nat.le_refl _, hm, ?_, ?_⟩⟩
  · rw [← Array.length_toList, hc, hl]
  · rw [hc, ← hl, List.take_length]
theorem OwnRow.one {b : Nat} {T : TypeId} {x : List Value} : OwnRow (some ⟨b, 0, none⟩) 1 1 [(b, .cells x.toArray T)] T x.length [x] :=
  OwnRow.lit rfl (fun y hy => by simp at hy; rw [hy]) (by simp) (by decide)

theorem flat_get {sz : Nat} : ∀ {xs : List (List Value)}, (∀ x ∈ xs, x.length = sz) → ∀ {i j : Nat} {x : List Value} {v : Value}, xs[i]? = some x → x[j]? = some v → xs.flatten[i * sz + j]? = some v
  | [], _, i, j, x, v, hx, _ => by simp at hx
  | y :: r, h, 0, j, x, v, hx, hv => by
    simp only [List.getElem?_cons_zero, Option.some.injEq] at hx
    subst hx
    simp only [Nat.zero_mul, Nat.zero_add, List.flatten_cons]
    rw [List.getElem?_append_left (List.getElem?_eq_some_iff.1 hv).1]; exact hv
  | y :: r, h, i + 1, j, x, v, hx, hv => by
    simp only [List.getElem?_cons_succ] at hx
    have hy := h y (by simp)
    simp only [List.flatten_cons]
    rw [List.getElem?_append_right (by rw [hy, Nat.add_mul]; omega), hy]
    have := flat_get (fun z hz => h z (by simp [hz])) hx hv
    rw [show (i + 1) * sz + j - sz = i * sz + j by rw [Nat.add_mul]; omega]
    exact this

/-- What is owned can be read. -/
theorem OwnRow.cells {I : Gh} {L : List Seg} {a : Option Addr} {n c : Nat} {S : Seg} {T : TypeId} {sz : Nat} {xs : List (List Value)} (h : OwnRow a n c S T sz xs) (hS : ∀ x ∈ S, Rd I L x.1 x.2) {i : Nat} {x : List Value}
    (hx : xs[i]? = some x) : Cells I L ((opA a).add (i * sz)) x := by
  obtain ⟨hn, hsz, h⟩ := h
  rcases h with ⟨_, h2, _, _⟩ | ⟨b, cur, rfl, rfl, hle, hm, hcs, ht⟩
  · have := (List.getElem?_eq_some_iff.1 hx).1; omega
  · simp only [opA, Option.getD_some]
    rw [addr_add _ rfl]
    refine .inr ⟨cur, T, (0, 0), rfl, hS (b, .cells cur T) (by simp), fun j v hv => ?_⟩
    have hf := flat_get hsz hx hv
    rw [← ht] at hf
    rw [List.getElem?_take] at hf
    split at hf
    · simpa using hf
    · cases hf

/-- Frozen, it is a row. -/
theorem OwnRow.row {I : Gh} {L : List Seg} {a : Option Addr} {n c : Nat} {S : Seg} {T : TypeId} {sz : Nat} {xs : List (List Value)} (h : OwnRow a n c S T sz xs) (hS : ∀ x ∈ S, Rd I L x.1 x.2) : Row I L a n c sz xs := by
  have hc := fun i x (hx : xs[i]? = some x) => h.cells (I := I) (L := L) hS hx
  obtain ⟨hn, hsz, h⟩ := h
  rcases h with ⟨rfl, h2, h3, _⟩ | ⟨b, cur, rfl, rfl, hle, hm, hcs, ht⟩
  · exact ⟨hn, by omega, by rw [h3]; exact Nat.zero_le _, fun _ => h3, hc, hsz⟩
  · exact ⟨hn, hle, hm, fun h => (by cases h), hc, hsz⟩

/-- A source of cells: what append, copy take. -/
def Src (I : Gh) (L : List Seg) (a : Option Addr) (n : Nat) (sz : Nat) (ys : List (List Value)) : Prop :=
  n = ys.length ∧ (∀ y ∈ ys, y.length = sz) ∧ (a = none → n = 0) ∧ (∀ x ∈ ys.flatten, x.oneCell' = true) ∧ ∀ j v, ys.flatten[j]? = some v → ∀ J M w, I.le J → Incl L M → St J M w → w.cell? ((opA a).add j) = some v

theorem flat_split {sz : Nat} (hs : 0 < sz) : ∀ {xs : List (List Value)}, (∀ x ∈ xs, x.length = sz) → ∀ {j : Nat} {v : Value}, xs.flatten[j]? = some v → ∃ x, xs[j / sz]? = some x ∧ x[j % sz]? = some v
  | [], _, j, v, h => by simp at h
  | y :: r, hx, j, v, h => by
    have hy := hx y (by simp)
    simp only [List.flatten_cons] at h
    by_cases hj : j < sz
    · rw [List.getElem?_append_left (by omega)] at h
      exact ⟨y, by rw [Nat.div_eq_of_lt hj]; rfl, by rw [Nat.mod_eq_of_lt hj]; exact h⟩
    · rw [List.getElem?_append_right (by omega), hy] at h
      obtain ⟨x, h1, h2⟩ := flat_split hs (fun z hz => hx z (by simp [hz])) h
      refine ⟨x, ?_, ?_⟩
      · rw [show j / sz = (j - sz) / sz + 1 by rw [Nat.div_eq_sub_div hs (by omega)]]
        simpa using h1
      · rw [Nat.mod_eq_sub_mod (by omega)]; exact h2

theorem src_of {I : Gh} {L : List Seg} {a : Option Addr} {n sz : Nat} {ys : List (List Value)} (hs : 0 < sz) (hn : n = ys.length) (hy : ∀ y ∈ ys, y.length = sz) (ha : a = none → n = 0) (h1 : ∀ x ∈ ys.flatten, x.oneCell' = true)
    (hc : ∀ i x, ys[i]? = some x → Cells I L ((opA a).add (i * sz)) x) : Src I L a n sz ys := by
  refine ⟨hn, hy, ha, h1, fun j v hv J M w hJ hM hw => ?_⟩
  obtain ⟨x, hx, hxv⟩ := flat_split hs hy hv
  have h2 := (hc _ x hx)
  have h3 := h2.cell hJ hM hw _ v hxv
  have hspot : ((opA a).add (j / sz * sz)).spot = none := by
    rcases h2 with h2 | ⟨_, _, _, h4, _⟩
    · subst h2; simp at hxv
    · exact h4
  have hsp : (opA a).spot = none ∨ j / sz * sz ≠ 0 := by
    by_cases h0 : j / sz * sz = 0
    · left; simpa [Addr.add, h0] using hspot
    · exact .inr h0
  have : ((opA a).add (j / sz * sz)).add (j % sz) = (opA a).add j := by
    have e : j / sz * sz + j % sz = j := Nat.div_add_mod' j sz
    rcases hsp with h | h
    · rw [add_add _ h, e]
    · have : ∀ k, (opA a).add (j / sz * sz + k) = ((opA a).add (j / sz * sz)).add k := fun k => by
        unfold Addr.add
        by_cases hk : k = 0
        · subst hk; simp
        · simp [h, hk, show ¬ (j / sz * sz + k = 0) by omega, Nat.add_assoc]
      rw [← this, e]
  rw [← this]; exact h3

theorem Row.src {I : Gh} {L : List Seg} {a : Option Addr} {n c sz : Nat} {ys : List (List Value)} (h : Row I L a n c sz ys) (hs : 0 < sz) (h1 : ∀ x ∈ ys.flatten, x.oneCell' = true) : Src I L a n sz ys :=
  src_of hs h.len h.ne (fun ha => by have := h.nil ha; have := h.le; omega) h1 fun _ _ hx => h.cells hx (.refl I) (.refl L)
theorem OwnRow.src {I : Gh} {L : List Seg} {a : Option Addr} {n c : Nat} {S : Seg} {T : TypeId} {sz : Nat} {ys : List (List Value)} (h : OwnRow a n c S T sz ys) (hS : ∀ x ∈ S, Rd I L x.1 x.2) (hs : 0 < sz)
    (h1 : ∀ x ∈ ys.flatten, x.oneCell' = true) : Src I L a n sz ys :=
  src_of hs h.1 h.2.1 (fun ha => by rcases h.2.2 with ⟨_, h2, _⟩ | ⟨b, _, h2, _⟩; exact h2; rw [h2] at ha; cases ha) h1 fun _ _ hx => h.cells hS hx

theorem Sat.dup {n : Nat} {e : Env} {a : Act} {t : Nat} {v : Value} (h : Sat n e a) (hv : get e t = some v) : Sat n ((t, v) :: e) a :=
  ⟨h.size, h.defers, fun s u hu => by
    rw [get_cons] at hu
    split at hu
    · rename_i he; subst he; exact h.tmps _ u (hv.trans hu)
    · exact h.tmps s u hu⟩
section
variable {P : Program} {n : Nat} {Q : Exit → Act → World → Prop} {e : Env} {I : Gh} {L : List Seg} {d : Option Tmp} {ty : TypeId} {pos : String} {af : Array Edge} {g : Option (Nat × Bool)} {ops : Array Oper} {rest : List Oper} {o : Oper}
  {keep : List Seg} {kd : Nat → Kd} {r : List Nat}

/-- A turn of what is owned, and nothing else. -/
theorem EL_u {L' : List Seg} (hg : o.guard = none) (hd : o.dst = none) (h : OX P n o e I L fun _ M _ => M = L') (k : EL P n ops rest Q e I L') : EL P n ops (o :: rest) Q e I L :=
  EL_x hg (by rw [hd]; rfl) h fun K M u hK hM => by subst hM; rw [hd]; exact fun a w ha hw => k a w ha (hw.less hK)
theorem EP_u {j : Nat} {L' : List Seg} (hj : ops[j]? = some o) (hk : kd j = .x) (hg : o.guard = none) (hd : o.dst = none) (h : OX P n o e I L fun _ M _ => M = L') (k : EP P n ops Q keep kd r e I L') : EP P n ops Q keep kd (j :: r) e I L :=
  EP_x hj hk hg (by rw [hd]; rfl) h fun K M u hK hM => by subst hM; rw [hd]; exact EP_le hK k
/-- A turn of what is owned, with a value. -/
theorem EL_y {post : List Seg → Value → Prop} {d : Tmp} (hg : o.guard = none) (hd : o.dst = some d) (hn : Nat.blt d n = true) (h : OX P n o e I L fun _ M u => post M u) (k : ∀ M u, post M u → EL P n ops rest Q ((d, u) :: e) I M) : EL P n ops (o :: rest) Q e I L :=
  EL_x hg (by rw [hd]; exact hn) h fun K M u hK hM => by rw [hd]; exact fun a w ha hw => k M u hM a w ha (hw.less hK)
theorem EP_y {j : Nat} {post : List Seg → Value → Prop} {d : Tmp} (hj : ops[j]? = some o) (hk : kd j = .x) (hg : o.guard = none) (hd : o.dst = some d) (hn : Nat.blt d n = true) (h : OX P n o e I L fun _ M u => post M u) (k : ∀ M u, post M u → EP P n ops Q keep kd r ((d, u) :: e) I M) : EP P n ops Q keep kd (j :: r) e I L :=
  EP_x hj hk hg (by rw [hd]; exact hn) h fun K M u hK hM => by rw [hd]; exact EP_le hK (k M u hM)
/-- Anything that keeps, no slot. -/
theorem EP_kz {j : Nat} {post : List Seg → Value → Prop} (hj : ops[j]? = some o) (hk : kd j = .y) (hg : o.guard = none) (hd : o.dst = none) (h : OX P n o e I L fun _ M u => post M u)
    (hke : ∀ M u, post M u → Incl keep M) (k : ∀ M u, post M u → EP P n ops Q keep kd r e I M) : EP P n ops Q keep kd (j :: r) e I L := by
  intro a ha o' ho'
  have : o' = o := Option.some.inj (ho'.symm.trans hj)
  subst this
  refine ⟨fun hw => by simp [Region.wanted, hg] at hw, fun _ => ?_⟩
  rw [hk]
  refine ⟨_, fun J E w hJ hw => h J E a w hJ ha hw, fun _ M u hp => hke M u hp, fun K M u hK hp => Pl_le hK _ _ _ (k M u hp _ ?_)⟩
  rw [hd]; exact ha
/-- The same where no slot takes the value. -/
theorem EL_z {post : List Seg → Value → Prop} (hg : o.guard = none) (hd : o.dst = none) (h : OX P n o e I L fun _ M u => post M u) (k : ∀ M u, post M u → EL P n ops rest Q e I M) : EL P n ops (o :: rest) Q e I L :=
  EL_x hg (by rw [hd]; rfl) h fun K M u hK hM => by rw [hd]; exact fun a w ha hw => k M u hM a w ha (hw.less hK)
theorem EP_z {j : Nat} {post : List Seg → Value → Prop} (hj : ops[j]? = some o) (hk : kd j = .x) (hg : o.guard = none) (hd : o.dst = none) (h : OX P n o e I L fun _ M u => post M u) (k : ∀ M u, post M u → EP P n ops Q keep kd r e I M) : EP P n ops Q keep kd (j :: r) e I L :=
  EP_x hj hk hg (by rw [hd]; rfl) h fun K M u hK hM => by rw [hd]; exact EP_le hK (k M u hM)

theorem os_len {t : TypeId} {x : Operand} {a : Option Addr} {m c : Nat} {el sz bytes : Nat} (hx : ev e x = some (.slice a m c)) (ht : sliceB P t el sz bytes = true) :
    OS P n ⟨d, .call ⟨.builtin .len, #[x], #[t]⟩, ty, pos, af, g⟩ e I L (.int .i64 m) :=
  os_len_slice hx ⟨a, m, c, rfl⟩ ht
theorem os_cap {t : TypeId} {x : Operand} {a : Option Addr} {m c : Nat} {el sz bytes : Nat} (hx : ev e x = some (.slice a m c)) (ht : sliceB P t el sz bytes = true) :
    OS P n ⟨d, .call ⟨.builtin .cap, #[x], #[t]⟩, ty, pos, af, g⟩ e I L (.int .i64 c) :=
  os_cap_slice hx ⟨a, m, c, rfl⟩ ht
theorem os_at {t : TypeId} {x y : Operand} {a : Option Addr} {m c : Nat} {k : IntKind} {z : Int} {el sz bytes : Nat} (i : Nat) (hx : ev e x = some (.slice a m c)) (hy : ev e y = some (.int k z)) (hz : z = (i : Int))
    (ht : sliceB P t el sz bytes = true) (hi : i < m) (ha : a.isSome = true) :
    OS P n ⟨d, .indexAddr t x y, ty, pos, af, g⟩ e I L (.pointer (some ((opA a).add (i * sz)))) := by
  cases a with
  | none => cases ha
  | some b =>
    have := os_index (P := P) (n := n) (e := e) (I := I) (L := L) (d := d) (ty := ty) (pos := pos) (af := af) (g := g) hx ⟨b, m, c, rfl⟩ hy ht (by omega) (by simp only [slN]; omega)
    simpa [slA, opA, hz] using this
theorem os_sub_slice {t : TypeId} {x : Operand} {lo hi : Option Operand} {a : Option Addr} {m c : Nat} {k k' : IntKind} {el sz bytes : Nat} (l h : Nat) (hx : ev e x = some (.slice a m c)) (ht : sliceB P t el sz bytes = true)
    (hlo : (match lo with | some y => ∃ z, ev e y = some (.int k z) ∧ z = (l : Int) | none => l = 0)) (hhi : (match hi with | some y => ∃ z, ev e y = some (.int k' z) ∧ z = (h : Int) | none => h = m))
    (hlh : l ≤ h) (hhc : h ≤ c) : OS P n ⟨d, .slice t x lo hi none, ty, pos, af, g⟩ e I L (.slice (if c = l then a else a.map (·.add (l * sz))) (h - l) (c - l)) :=
  os_slice (k := k) (k' := k') hx ⟨a, m, c, rfl⟩ ht (by cases lo <;> simp_all) (by cases hi <;> simp_all [slN]) hlh (by simpa [slC] using hhc)

-- integers in range
theorem os_add_in {t u : TypeId} {x y : Operand} {k : IntKind} {p q : Int} (hx : ev e x = some (.int k p)) (hy : ev e y = some (.int k q)) (h : k.wrap (p + q) = p + q) :
    OS P n ⟨d, .binOp .add t x y u, ty, pos, af, g⟩ e I L (.int k (p + q)) := h ▸ os_add hx hy
theorem os_sub_in {t u : TypeId} {x y : Operand} {k : IntKind} {p q : Int} (hx : ev e x = some (.int k p)) (hy : ev e y = some (.int k q)) (h : k.wrap (p - q) = p - q) :
    OS P n ⟨d, .binOp .sub t x y u, ty, pos, af, g⟩ e I L (.int k (p - q)) := h ▸ os_sub hx hy
theorem os_mul_in {t u : TypeId} {x y : Operand} {k : IntKind} {p q : Int} (hx : ev e x = some (.int k p)) (hy : ev e y = some (.int k q)) (h : k.wrap (p * q) = p * q) :
    OS P n ⟨d, .binOp .mul t x y u, ty, pos, af, g⟩ e I L (.int k (p * q)) := h ▸ os_mul hx hy

theorem run_v' {t : TypeId} {x y : Operand} {u v q : Value} {b : Act} {w w' : World} (hb : Sat n e b) (hx : ev e x = some u) (hy : ev e y = some v) (hr : (Builtin.append_ #[t, t] ty #[u, v]).run P w = .ok q w') :
    (execOp b.eval ⟨d, .call ⟨.builtin .append, #[x, y], #[t, t]⟩, ty, pos, af, g⟩).run P w = .ok (.value q) w' := by
  simp only [execOp, resolve, List.map_toArray, List.map_cons, List.map_nil, hb.eval hx, hb.eval hy]
  simp [invoke, builtin, Sem.run_bind, hr]
/-- append to a slice of the call's own. -/
theorem ox_append {t el sz bytes : Nat} {x y : Operand} {a a' : Option Addr} {m c m' c' : Nat} {S : Seg} {xs ys : List (List Value)} {z : Value} {L0 : List Seg}
    (hx : ev e x = some (.slice a m c)) (hy : ev e y = some (.slice a' m' c')) (ht : sliceB P t el sz bytes = true) (hz : (P.info? el).bind (·.zero) = some z) (hzs : z.cells.size = sz) (hsz : 0 < sz)
    (ho : OwnRow a m c S el sz xs) (hL : L.Perm (S :: L0)) (hs : Src I L a' m' sz ys) (hc : a' = none → c' = 0) (hbytes : (m + m') * bytes ≤ 140737488355328) (hmax : m + m' ≤ maxLen) :
    OX P n ⟨d, .call ⟨.builtin .append, #[x, y], #[t, t]⟩, ty, pos, af, g⟩ e I L fun _ M v => ∃ a'' c'' S', M = S' :: L0 ∧ v = .slice a'' (m + m') c'' ∧ OwnRow a'' (m + m') c'' S' el sz (xs ++ ys) ∧ (a'' = none → a = none ∧ m' = 0) ∧ c ≤ c'' := by
  intro J E b w hJ hb hw
  obtain ⟨i, hu, hi, hisz, hiby⟩ := sliceB_spec ht
  have hiz : i.zero = some z := by simpa [hi] using hz
  obtain ⟨hm, hxs, ho⟩ := ho
  obtain ⟨hm', hys, hnone, hone, hcell⟩ := hs
  have hw' : St J (S :: (E ++ L0)) w := hw.perm (by
    refine List.Perm.trans List.perm_middle.symm ?_
    exact List.Perm.append_left E hL.symm)
  have flen : ∀ zs : List (List Value), (∀ x ∈ zs, x.length = sz) → zs.flatten.length = zs.length * sz := by
    intro zs hzz
    induction zs with
    | nil => simp
    | cons q r ih => simp only [List.flatten_cons, List.length_append, List.length_cons]; rw [ih (fun y hy => hzz y (by simp [hy])), hzz q (by simp), Nat.add_mul]; omega
  have all : ∀ q ∈ xs ++ ys, q.length = sz := fun q hq => (List.mem_append.1 hq).elim (hxs q) (hys q)
  have hxl := flen xs hxs
  have hyl := flen ys hys
  -- the grown way: a new block
  have grow : ∀ (old : Nat), c < m + m' → (Builtin.append_ #[t, t] ty #[.slice a m c, .slice a' m' c']).run P w = .ok (.slice (some ⟨w.heap.size, 0, none⟩) (m + m') (grownCap w (m + m') old el))
      (w.drew.alloc (.cells (xs.flatten.toArray ++ ys.flatten.toArray ++ Builtin.zeroCells z.cells (grownCap w (m + m') old el - (m + m'))) el)) →
      Yield P ⟨d, .call ⟨.builtin .append, #[x, y], #[t, t]⟩, ty, pos, af, g⟩ b w fun u w' => ∃ K M, J.le K ∧ St K (E ++ M) w' ∧ ∃ a'' c'' S', M = S' :: L0 ∧ u = .slice a'' (m + m') c'' ∧ OwnRow a'' (m + m') c'' S' el sz (xs ++ ys) ∧ (a'' = none → a = none ∧ m' = 0) ∧ c ≤ c'' := by
    intro old hlt hr
    obtain ⟨cur1, hcur1⟩ : ∃ cur1, cur1 = xs.flatten.toArray ++ ys.flatten.toArray ++ Builtin.zeroCells z.cells (grownCap w (m + m') old el - (m + m')) := ⟨_, rfl⟩
    rw [← hcur1] at hr
    refine yield_val (w' := w.drew.alloc (.cells cur1 el)) (v := .slice (some ⟨w.heap.size, 0, none⟩) (m + m') (grownCap w (m + m') old el)) (by simp [execOp, resolve, hb.eval hx, hb.eval hy, invoke, builtin, Sem.run_bind, hr]) ?_
    have hge := grownCap_ge w (m + m') old el
    have hcc : c ≤ grownCap w (m + m') old el := by omega
    have hcm := grownCap_le_maxLen w (m + m') old el hmax
    refine ⟨J, [(w.heap.size, .cells cur1 el)] :: L0, .refl J, ?_, some ⟨w.heap.size, 0, none⟩, _, _, rfl, rfl, ⟨by rw [List.length_append]; omega, all, .inr ⟨w.heap.size, cur1, rfl, rfl, hge, hcm, ?_, ?_⟩⟩, fun h => (by cases h), hcc⟩
    · refine St.perm (M := [(w.heap.size, .cells cur1 el)] :: (E ++ L0)) ?_ List.perm_middle
      exact (hw'.drop.drawn (w.drawn + 1)).alloc _
    · rw [hcur1]; simp only [Array.size_append, List.size_toArray, size_zeroCells, hzs, hxl, hyl, ← hm, ← hm', ← Nat.add_mul]
      congr 1
      omega
    · rw [hcur1]; simp only [Array.toList_append, List.append_assoc, List.flatten_append]
      rw [← List.append_assoc, show (m + m') * sz = (xs.flatten ++ ys.flatten).length by rw [List.length_append, hxl, hyl, ← hm, ← hm', Nat.add_mul]]
      exact List.take_left
  have hcellw : ∀ j v, ys.flatten[j]? = some v → w.cell? ((opA a').add j) = some v := fun j v hv => hcell j v hv J (E ++ L) w hJ (.front E L) hw
  rcases ho with ⟨rfl, rfl, rfl, rfl⟩ | ⟨gb, cur, rfl, rfl, hle, hcm, hcs, htk⟩
  · -- nil
    have hx0 : xs = [] := List.eq_nil_of_length_eq_zero hm.symm
    subst hx0
    by_cases h0 : m' = 0
    · subst h0
      have hy0 : ys = [] := List.eq_nil_of_length_eq_zero hm'.symm
      subst hy0
      have hr : (Builtin.append_ #[t, t] ty #[.slice none 0 0, .slice a' 0 c']).run P w = .ok (.slice none 0 0) w := by
        cases a' <;> simp [Builtin.append_, run_underlying hu, sizeOf, typeInfo, hi, Builtin.lenOf, Builtin.firstCells, loadCells, loadCellsFrom]
      refine yield_val (w' := w) (v := .slice none 0 0) (by simp [execOp, resolve, hb.eval hx, hb.eval hy, invoke, builtin, Sem.run_bind, hr]) ?_
      exact ⟨J, [] :: L0, .refl J, hw'.drop.flat (by simp), none, 0, [], rfl, rfl, OwnRow.empty el sz, fun _ => ⟨rfl, rfl⟩, Nat.le_refl _⟩
    · obtain ⟨a1, rfl⟩ : ∃ a1, a' = some a1 := by cases a' with | none => exact absurd (hnone rfl) h0 | some a1 => exact ⟨a1, rfl⟩
      have hr := run_append_nil (P := P) w t ty el i z hu hi hiz a1 m' c' ys.flatten (by rw [hyl, hm', hisz]) (by simpa [opA] using hcellw) (by omega) (by simp only [maxLen] at hmax; omega) (by rw [hiby]; simp only [Nat.zero_add] at hbytes; omega)
      exact grow 0 (by omega) (by simpa using hr)
  · have hgh : w.heap[gb]? = some (.cells cur el) := hw'.own (gb, .cells cur el) (by simp)
    by_cases hroom : m + m' ≤ c
    · have hfit : m * sz + ys.flatten.length ≤ cur.size := by rw [hyl, ← hm', hcs, ← Nat.add_mul]; exact Nat.mul_le_mul_right _ hroom
      have hupd : ∀ w', w'.heap[gb]? = some (.cells (cur.toList.take (m * sz) ++ ys.flatten ++ cur.toList.drop (m * sz + ys.flatten.length)).toArray el) → (∀ k, k ≠ gb → w'.heap[k]? = w.heap[k]?) → w'.os = w.os → w'.tape = w.tape → w'.output = w.output →
          St J (E ++ [(gb, .cells (cur.toList.take (m * sz) ++ ys.flatten ++ cur.toList.drop (m * sz + ys.flatten.length)).toArray el)] :: L0) w' := fun w' h1 h2 h3 h4 h5 =>
        St.perm (hw'.upd (.head .head) h1 h2 h3 h4 h5) List.perm_middle
      have hfin : OwnRow (some ⟨gb, 0, none⟩) (m + m') c [(gb, .cells (cur.toList.take (m * sz) ++ ys.flatten ++ cur.toList.drop (m * sz + ys.flatten.length)).toArray el)] el sz (xs ++ ys) := by
        refine ⟨by rw [List.length_append]; omega, all, .inr ⟨gb, _, rfl, rfl, hroom, hcm, ?_, ?_⟩⟩
        · simp only [List.size_toArray, List.length_append, List.length_take, List.length_drop, Array.length_toList]
          omega
        · rw [htk, show (m + m') * sz = (xs.flatten ++ ys.flatten).length by rw [List.length_append, hxl, hyl, ← hm, ← hm', Nat.add_mul], List.flatten_append]
          exact List.take_left
      cases a' with
      | some a1 =>
        have hr := run_append_room (P := P) w t ty el i hu hi gb m c cur hgh a1 m' c' ys.flatten (by rw [hyl, hm', hisz]) (by simpa [opA] using hcellw) hone hroom (by rw [hisz]; exact hfit)
        rw [hisz] at hr
        refine yield_val (w' := _) (v := .slice (some ⟨gb, 0, none⟩) (m + m') c) (run_v' hb hx hy hr) ?_
        exact ⟨J, _ :: L0, .refl J, hupd _ (by simpa using setRow_heap w gb cur _ el (0, 0) hgh) (fun k hk => setRow_other w gb k _ hk) rfl rfl rfl, _, _, _, rfl, rfl, hfin, fun h => (by cases h), Nat.le_refl _⟩
      | none =>
        have h0 := hnone rfl
        have hc0 := hc rfl
        subst h0; subst hc0
        have hy0 : ys = [] := List.eq_nil_of_length_eq_zero hm'.symm
        subst hy0
        have hr : (Builtin.append_ #[t, t] ty #[.slice (some ⟨gb, 0, none⟩) m c, .slice none 0 0]).run P w = .ok (.slice (some ⟨gb, 0, none⟩) m c) w := by
          simp [Builtin.append_, run_underlying hu, sizeOf, typeInfo, hi, Builtin.lenOf, Builtin.firstCells, hle, storeCells]
        refine yield_val (w' := w) (v := .slice (some ⟨gb, 0, none⟩) m c) (by simp [execOp, resolve, hb.eval hx, hb.eval hy, invoke, builtin, Sem.run_bind, hr]) ?_
        refine ⟨J, _ :: L0, .refl J, hupd w ?_ (fun _ _ => rfl) rfl rfl rfl, _, _, _, rfl, rfl, hfin, fun h => (by cases h), Nat.le_refl _⟩
        rw [hgh]; simp
    · obtain ⟨a1, rfl⟩ : ∃ a1, a' = some a1 := by cases a' with | none => have := hnone rfl; omega | some a1 => exact ⟨a1, rfl⟩
      have holds : ∀ j v, xs.flatten[j]? = some v → w.cell? ((⟨gb, 0, none⟩ : Addr).add j) = some v := fun j v hv => by
        rw [← htk] at hv
        rw [addr_add _ rfl, cell_of_row w gb _ cur el (0, 0) hgh]
        rw [List.getElem?_take] at hv
        split at hv
        · simpa using hv
        · cases hv
      have hr := run_append_grow (P := P) w t ty el i z hu hi hiz ⟨gb, 0, none⟩ m c xs.flatten (by rw [hxl, hm, hisz]) holds a1 m' c' ys.flatten (by rw [hyl, hm', hisz]) (by simpa [opA] using hcellw) (by omega)
        (by simp only [maxLen] at hmax; omega) (growslice_fits (by omega) (by rw [hiby]; exact hbytes))
      exact grow c (by omega) hr

/-! small things for printed walks -/
theorem EL_split {t : Nat} {b : Bool} (hv : get e t = some (.bool b)) (ht : b = true → EL P n ops rest Q ((t, .bool true) :: e) I L) (hf : b = false → EL P n ops rest Q ((t, .bool false) :: e) I L) : EL P n ops rest Q e I L := by
  cases b with
  | true => exact fun a w ha hw => ht rfl a w (ha.dup hv) hw
  | false => exact fun a w ha hw => hf rfl a w (ha.dup hv) hw
theorem EP_split {t : Nat} {b : Bool} (hv : get e t = some (.bool b)) (ht : b = true → EP P n ops Q keep kd r ((t, .bool true) :: e) I L) (hf : b = false → EP P n ops Q keep kd r ((t, .bool false) :: e) I L) : EP P n ops Q keep kd r e I L := by
  cases b with
  | true => exact fun a ha => ht rfl a (ha.dup hv)
  | false => exact fun a ha => hf rfl a (ha.dup hv)
/-- What holds between two pieces of code. -/
def CutPost {σ : Type} (n : Nat) (env : σ → Env) (gh : σ → Gh) (own : σ → List Seg) (inv : σ → Prop) (a : Act) (w : World) : Prop := ∃ s, inv s ∧ Sat n (env s) a ∧ St (gh s) (own s) w
/-- Two pieces of code, and what holds between them. -/
theorem EW_seq_cut {σ : Type} {c1 c2 : Code} (env : σ → Env) (gh : σ → Gh) (own : σ → List Seg) (inv : σ → Prop)
    (h1 : EW P n c1 (Exit.then (CutPost n env gh own inv) Q) e I L) (h2 : ∀ s, inv s → EW P n c2 Q (env s) (gh s) (own s)) : EW P n (.seq c1 c2) Q e I L :=
  fun a w ha hw => wp_seq (wp_mono (h1 a w ha hw) fun ex a' w' h => by
    cases ex <;> first | exact h | skip
    obtain ⟨s, hi, hs, hst⟩ := h
    exact h2 s hi a' w' hs hst)
theorem EQ_cut {σ : Type} {env : σ → Env} {gh : σ → Gh} {own : σ → List Seg} {inv : σ → Prop} (s : σ) (hi : inv s) (hs : SubE (env s) e) (hst : ∀ w, St I L w → St (gh s) (own s) w) :
    EQ n (Exit.then (CutPost n env gh own inv) Q .normal) e I L := fun _ w ha hw => ⟨s, hi, ha.sub hs, hst w hw⟩

theorem rv_tmp {t : Tmp} {v : Value} (h : get e t = some v) : resVar P e I L (.tmp t) v := h
theorem rv_agg {t : Tmp} {T : TypeId} {b : Nat} {cs : List Value} (h : get e t = some (.pointer (some ⟨b, 0, none⟩))) (ht : aggB P T cs.length = true) (hc : Cells I L ⟨b, 0, none⟩ cs) : resVar P e I L (.cell t T) (.agg cs.toArray) :=
  ⟨b, h, .inl ⟨by simpa [Value.cells] using ht, rfl, by simpa [Value.cells] using hc⟩⟩
theorem rv_one {t : Tmp} {T : TypeId} {b : Nat} {v : Value} (h : get e t = some (.pointer (some ⟨b, 0, none⟩))) (ht : oneB P T = true) (hc : Cells I L ⟨b, 0, none⟩ [v]) : resVar P e I L (.cell t T) v :=
  ⟨b, h, .inr ⟨ht, hc⟩⟩

-- a call that only computes and makes: its end
theorem pc_ret1 {fn : Func} {J : Gh} {L0 : List Seg} {post : Gh → Value → Prop} {rv : ResultVar} {v : Value} (hr : fn.results = #[rv]) (h1 : resVar P e I L rv v) (hJ : J.le I) (hL : Incl L0 L) (hp : post I v) {ex : Exit}
    (hex : ex = .ret ∨ ex = .normal) : EQ n (bodyPost P fn (Ret fun K M v => J.le K ∧ M = L0 ∧ post K v) ex) e I L :=
  ret_1 hr h1 ⟨I, L0, fun _ h => h.incl hL, hJ, rfl, hp⟩ hex
theorem pc_ret2 {fn : Func} {J : Gh} {L0 : List Seg} {post : Gh → Value → Prop} {rv rv' : ResultVar} {v v' : Value} (hr : fn.results = #[rv, rv']) (h1 : resVar P e I L rv v) (h2 : resVar P e I L rv' v') (hJ : J.le I) (hL : Incl L0 L)
    (hp : post I (.tuple #[v, v'])) {ex : Exit} (hex : ex = .ret ∨ ex = .normal) : EQ n (bodyPost P fn (Ret fun K M v => J.le K ∧ M = L0 ∧ post K v) ex) e I L :=
  ret_2 hr h1 h2 ⟨I, L0, fun _ h => h.incl hL, hJ, rfl, hp⟩ hex
theorem pc_ret3 {fn : Func} {J : Gh} {L0 : List Seg} {post : Gh → Value → Prop} {rv rv' rv'' : ResultVar} {v v' v'' : Value} (hr : fn.results = #[rv, rv', rv'']) (h1 : resVar P e I L rv v) (h2 : resVar P e I L rv' v') (h3 : resVar P e I L rv'' v'')
    (hJ : J.le I) (hL : Incl L0 L) (hp : post I (.tuple #[v, v', v''])) {ex : Exit} (hex : ex = .ret ∨ ex = .normal) : EQ n (bodyPost P fn (Ret fun K M v => J.le K ∧ M = L0 ∧ post K v) ex) e I L :=
  ret_3 hr h1 h2 h3 ⟨I, L0, fun _ h => h.incl hL, hJ, rfl, hp⟩ hex

/-- Freezing a segment, at any place. -/
theorem EL_freeze {S : Seg} {L' : List Seg} (hL : L.Perm (S :: L')) (h : ∀ K, I.le K → (∀ x ∈ S, K.imm x.1 = some x.2) → EL P n ops rest Q e K L') : EL P n ops rest Q e I L :=
  fun a w ha hw => by
    obtain ⟨h1, h2, h3⟩ := (hw.perm hL.symm).freeze
    exact h _ h1 h2 a w ha h3
theorem EW_freeze {c : Code} {S : Seg} {L' : List Seg} (hL : L.Perm (S :: L')) (h : ∀ K, I.le K → (∀ x ∈ S, K.imm x.1 = some x.2) → EW P n c Q e K L') : EW P n c Q e I L :=
  fun a w ha hw => by
    obtain ⟨h1, h2, h3⟩ := (hw.perm hL.symm).freeze
    exact h _ h1 h2 a w ha h3
theorem EQ_freeze {K0 : Act → World → Prop} {S : Seg} {L' : List Seg} (hL : L.Perm (S :: L')) (h : ∀ K, I.le K → (∀ x ∈ S, K.imm x.1 = some x.2) → EQ n K0 e K L') : EQ n K0 e I L :=
  fun a w ha hw => by
    obtain ⟨h1, h2, h3⟩ := (hw.perm hL.symm).freeze
    exact h _ h1 h2 a w ha h3
end
end Go.Gl
