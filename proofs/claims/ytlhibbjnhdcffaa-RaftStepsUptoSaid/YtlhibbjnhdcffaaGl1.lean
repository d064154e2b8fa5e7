/- The logic 'Gl', part 1: worlds seen as frozen blocks (a ghost 'Gh') and owned segments; environments in the place of frames; the rules of code. Plain library, no program in sight. -/
import Derived.WalkKit
import Derived.Orders
namespace Go.Gl
open Go

/-- A block with its content; a segment: some blocks. -/
abbrev Blk := Nat × Obj
abbrev Seg := List Blk

/-- What never turns again. -/
structure Gh where
  imm : Nat → Option Obj
  os : Os
  tape : Nat → Question → Nat
  output : Array (Nat × ByteArray)

structure Gh.le (I J : Gh) : Prop where
  imm : ∀ b o, I.imm b = some o → J.imm b = some o
  os : J.os = I.os
  tape : J.tape = I.tape
  output : J.output = I.output

theorem Gh.le.refl (I : Gh) : I.le I := ⟨fun _ _ h => h, rfl, rfl, rfl⟩
theorem Gh.le.trans {I J K : Gh} (h : I.le J) (k : J.le K) : I.le K :=
  ⟨fun b o hb => k.imm b o (h.imm b o hb), k.os.trans h.os, k.tape.trans h.tape, k.output.trans h.output⟩

structure St (I : Gh) (L : List Seg) (w : World) : Prop where
  imm : ∀ b o, I.imm b = some o → w.heap[b]? = some o
  own : ∀ x ∈ L.flatten, w.heap[x.1]? = some x.2
  sep : ∀ x ∈ L.flatten, I.imm x.1 = none
  nodup : (L.flatten.map (·.1)).Nodup
  os : w.os = I.os
  tape : w.tape = I.tape
  output : w.output = I.output

theorem lt_of_get {α : Type} {a : Array α} {b : Nat} {o : α} (h : a[b]? = some o) : b < a.size := (Array.getElem?_eq_some_iff.1 h).1

theorem St.immLt {I : Gh} {L : List Seg} {w : World} (h : St I L w) {b : Nat} {o : Obj} (hb : I.imm b = some o) : b < w.heap.size := lt_of_get (h.imm b o hb)
theorem St.ownLt {I : Gh} {L : List Seg} {w : World} (h : St I L w) {x : Blk} (hx : x ∈ L.flatten) : x.1 < w.heap.size := lt_of_get (h.own x hx)

/-- A draw turns nothing. -/
theorem St.drawn {I : Gh} {L : List Seg} {w : World} (h : St I L w) (n : Nat) : St I L { w with drawn := n } := ⟨h.imm, h.own, h.sep, h.nodup, h.os, h.tape, h.output⟩

/-- Fewer owned things. -/
theorem St.sub {I : Gh} {L M : List Seg} {w : World} (h : St I M w) (hs : ∃ E, (E ++ L.flatten).Perm M.flatten) : St I L w := by
  obtain ⟨E, hE⟩ := hs
  have hm : ∀ x ∈ L.flatten, x ∈ M.flatten := fun x hx => hE.mem_iff.1 (List.mem_append_right _ hx)
  refine ⟨h.imm, fun x hx => h.own x (hm x hx), fun x hx => h.sep x (hm x hx), ?_, h.os, h.tape, h.output⟩
  have hn := (hE.map (·.1)).nodup_iff.2 h.nodup
  rw [List.map_append] at hn
  exact (List.nodup_append.1 hn).2.1

theorem St.perm {I : Gh} {L M : List Seg} {w : World} (h : St I M w) (hp : L.Perm M) : St I L w :=
  h.sub ⟨[], by simpa using hp.flatten⟩

theorem St.drop {I : Gh} {S : Seg} {L : List Seg} {w : World} (h : St I (S :: L) w) : St I L w := h.sub ⟨S, by simp⟩

/-- A new block. -/
theorem St.alloc {I : Gh} {L : List Seg} {w : World} (h : St I L w) (o : Obj) : St I ([(w.heap.size, o)] :: L) { w with heap := w.heap.push o } := by
  have old : ∀ b o', w.heap[b]? = some o' → (w.heap.push o)[b]? = some o' := fun b o' hb => by
    have := lt_of_get hb
    rw [Array.getElem?_push, if_neg (by omega)]; exact hb
  refine ⟨fun b o' hb => old _ _ (h.imm b o' hb), ?_, ?_, ?_, h.os, h.tape, h.output⟩
  · intro x hx
    simp only [List.flatten_cons, List.singleton_append, List.mem_cons] at hx
    rcases hx with rfl | hx
    · simp
    · exact old _ _ (h.own x hx)
  · intro x hx
    simp only [List.flatten_cons, List.singleton_append, List.mem_cons] at hx
    rcases hx with rfl | hx
    · cases hi : I.imm w.heap.size with
      | none => rfl
      | some o' => exact absurd (h.immLt hi) (by omega)
    · exact h.sep x hx
  · simp only [List.flatten_cons, List.singleton_append, List.map_cons, List.nodup_cons]
    refine ⟨fun hm => ?_, h.nodup⟩
    obtain ⟨x, hx, he⟩ := List.mem_map.1 hm
    have := h.ownLt hx
    omega

/-- One owned block turns. -/
theorem St.set {I : Gh} {A B : List Blk} {b : Nat} {o o' : Obj} {L : List Seg} {w w' : World} (h : St I ((A ++ (b, o) :: B) :: L) w)
    (hw : w'.heap[b]? = some o') (hold : ∀ k, k ≠ b → w'.heap[k]? = w.heap[k]?) (hos : w'.os = w.os) (ht : w'.tape = w.tape) (hout : w'.output = w.output) :
    St I ((A ++ (b, o') :: B) :: L) w' := by
  have hb : (b, o) ∈ ((A ++ (b, o) :: B) :: L).flatten := by simp
  have hnd := h.nodup
  simp only [List.flatten_cons, List.append_assoc, List.cons_append, List.map_append, List.map_cons] at hnd
  have hne : ∀ x, x ∈ A ∨ x ∈ B ∨ x ∈ L.flatten → x.1 ≠ b := by
    intro x hx he
    have h1 := List.nodup_append.1 hnd
    have h2 := List.nodup_cons.1 h1.2.1
    rcases hx with hx | hx | hx
    · exact h1.2.2 x.1 (List.mem_map_of_mem hx) b (by simp) he
    · exact h2.1 (by rw [← he]; exact List.mem_append_left _ (List.mem_map_of_mem hx))
    · exact h2.1 (by rw [← he]; exact List.mem_append_right _ (List.mem_map_of_mem hx))
  refine ⟨fun k x hk => ?_, fun x hx => ?_, fun x hx => ?_, ?_, hos.trans h.os, ht.trans h.tape, hout.trans h.output⟩
  · have : k ≠ b := fun e => by subst e; have := h.sep _ hb; simp_all
    rw [hold k this]; exact h.imm k x hk
  · simp only [List.flatten_cons, List.append_assoc, List.cons_append, List.mem_append, List.mem_cons] at hx
    rcases hx with hx | rfl | hx | hx
    · rw [hold _ (hne x (.inl hx))]; exact h.own x (by simp [hx])
    · exact hw
    · rw [hold _ (hne x (.inr (.inl hx)))]; exact h.own x (by simp [hx])
    · rw [hold _ (hne x (.inr (.inr hx)))]; exact h.own x (by simp only [List.flatten_cons, List.mem_append]; exact .inr hx)
  · simp only [List.flatten_cons, List.append_assoc, List.cons_append, List.mem_append, List.mem_cons] at hx
    rcases hx with hx | rfl | hx | hx
    · exact h.sep x (by simp [hx])
    · exact h.sep (b, o) hb
    · exact h.sep x (by simp [hx])
    · exact h.sep x (by simp only [List.flatten_cons, List.mem_append]; exact .inr hx)
  · simpa using hnd

/-- The ghost with a segment frozen. -/
def Gh.add (I : Gh) (S : Seg) : Gh := { I with imm := fun b => (S.find? (fun x => x.1 == b)).elim (I.imm b) (fun x => some x.2) }

theorem Gh.add_le {I : Gh} {S : Seg} (hs : ∀ x ∈ S, I.imm x.1 = none) : I.le (I.add S) := by
  refine ⟨fun b o hb => ?_, rfl, rfl, rfl⟩
  simp only [Gh.add]
  cases hf : S.find? (fun x => x.1 == b) with
  | none => exact hb
  | some x =>
    have h1 := List.mem_of_find?_eq_some hf
    have h2 := List.find?_some hf
    simp only [beq_iff_eq] at h2
    rw [← h2, hs x h1] at hb
    cases hb

theorem Gh.add_mem {I : Gh} {S : Seg} (hn : (S.map (·.1)).Nodup) {x : Blk} (hx : x ∈ S) : (I.add S).imm x.1 = some x.2 := by
  simp only [Gh.add]
  induction S with
  | nil => cases hx
  | cons y S ih =>
    simp only [List.map_cons, List.nodup_cons] at hn
    rcases List.mem_cons.1 hx with rfl | hx
    · simp
    · have hne : (y.1 == x.1) = false := by
        rw [beq_eq_false_iff_ne]
        intro e
        exact hn.1 (by rw [e]; exact List.mem_map_of_mem hx)
      rw [List.find?_cons, hne]
      exact ih hn.2 hx

theorem St.freeze {I : Gh} {S : Seg} {L : List Seg} {w : World} (h : St I (S :: L) w) :
    I.le (I.add S) ∧ (∀ x ∈ S, (I.add S).imm x.1 = some x.2) ∧ St (I.add S) L w := by
  have hnd := h.nodup
  simp only [List.flatten_cons, List.map_append] at hnd
  have h1 := List.nodup_append.1 hnd
  have hsep : ∀ x ∈ S, I.imm x.1 = none := fun x hx => h.sep x (by simp [hx])
  refine ⟨Gh.add_le hsep, fun x hx => Gh.add_mem h1.1 hx, ⟨fun b o hb => ?_, fun x hx => h.own x (by simp only [List.flatten_cons, List.mem_append]; exact .inr hx), fun x hx => ?_, h1.2.1, h.os, h.tape, h.output⟩⟩
  · simp only [Gh.add] at hb
    cases hf : S.find? (fun x => x.1 == b) with
    | none => rw [hf] at hb; exact h.imm b o hb
    | some x =>
      rw [hf] at hb
      have h2 := List.mem_of_find?_eq_some hf
      have h3 := List.find?_some hf
      simp only [beq_iff_eq] at h3
      simp only [Option.elim, Option.some.injEq] at hb
      rw [← h3, ← hb]
      exact h.own x (by simp [h2])
  · simp only [Gh.add]
    cases hf : S.find? (fun y => y.1 == x.1) with
    | none => exact h.sep x (by simp only [List.flatten_cons, List.mem_append]; exact .inr hx)
    | some y =>
      have h2 := List.mem_of_find?_eq_some hf
      have h3 := List.find?_some hf
      simp only [beq_iff_eq] at h3
      exact absurd h3 (h1.2.2 y.1 (List.mem_map_of_mem h2) x.1 (List.mem_map_of_mem hx))

/-- Up to what is frozen besides. -/
def Up (I : Gh) (L : List Seg) (w : World) : Prop := ∃ J, I.le J ∧ St J L w

theorem Up.le {I J : Gh} {L : List Seg} {w : World} (h : Up J L w) (hI : I.le J) : Up I L w := let ⟨K, hk, hs⟩ := h; ⟨K, hI.trans hk, hs⟩
theorem St.up {I : Gh} {L : List Seg} {w : World} (h : St I L w) : Up I L w := ⟨I, .refl I, h⟩

/-! ### Environments -/

abbrev Env := List (Nat × Value)

def get : Env → Nat → Option Value
  | [], _ => none
  | (k, v) :: r, t => bif Nat.beq k t then some v else get r t

def putE (e : Env) (d : Option Tmp) (v : Value) : Env := match d with | some d => (d, v) :: e | none => e

/-- The frame has 'n' slots, no deferred calls, and what the environment says. -/
structure Sat (n : Nat) (e : Env) (a : Act) : Prop where
  size : a.tmps.size = n
  defers : a.defers = []
  tmps : ∀ t v, get e t = some v → a.tmps[t]? = some v

def dstOk (n : Nat) : Option Tmp → Bool
  | some d => Nat.blt d n
  | none => true

theorem get_cons (k : Nat) (v : Value) (r : Env) (t : Nat) : get ((k, v) :: r) t = if k = t then some v else get r t := by
  simp only [get]
  by_cases h : k = t
  · subst h; simp
  · rw [if_neg h]
    have : Nat.beq k t = false := by
      cases hb : Nat.beq k t with
      | false => rfl
      | true => exact absurd (Nat.eq_of_beq_eq_true hb) h
    rw [this]; rfl

theorem Sat.put {n : Nat} {e : Env} {a : Act} (h : Sat n e a) {d : Option Tmp} (hd : dstOk n d = true) (v : Value) : Sat n (putE e d v) (a.put d v) := by
  cases d with
  | none => exact h
  | some d =>
    have hlt : d < n := by
      have : Nat.ble (d + 1) n = true := hd
      exact Nat.le_of_ble_eq_true this
    refine ⟨by simp [Act.put, h.size], h.defers, fun t u hu => ?_⟩
    simp only [putE, get_cons] at hu
    simp only [Act.put]
    by_cases he : d = t
    · rw [if_pos he] at hu
      subst he
      simp only [Option.some.injEq] at hu
      subst hu
      simp [h.size, hlt]
    · rw [if_neg he] at hu
      rw [Array.getElem?_setIfInBounds_ne he]
      exact h.tmps t u hu

def ev (e : Env) : Operand → Option Value
  | .tmp t => get e t
  | .const v => some v
  | .global g => some (.pointer (some ⟨g, 0, none⟩))
  | .func f => some (.func (.func f) #[] #[])

theorem Sat.eval {n : Nat} {e : Env} {a : Act} (h : Sat n e a) {x : Operand} {v : Value} (hx : ev e x = some v) : a.eval x = v := by
  cases x with
  | tmp t =>
    have := h.tmps t v hx
    simp [Act.eval, this]
  | const u => simpa [ev, Act.eval] using hx
  | global g => simpa [ev, Act.eval] using hx
  | func f => simpa [ev, Act.eval] using hx

/-- 'e' says all that 'e'' says. -/
def SubE : Env → Env → Prop
  | [], _ => True
  | (k, v) :: r, e => get e k = some v ∧ SubE r e

theorem SubE.get {e' e : Env} (h : SubE e' e) {t : Nat} {v : Value} (ht : get e' t = some v) : get e t = some v := by
  induction e' with
  | nil => cases ht
  | cons x r ih =>
    obtain ⟨k, u⟩ := x
    rw [get_cons] at ht
    by_cases hk : k = t
    · rw [if_pos hk] at ht
      have h1 : Go.Gl.get e k = some u := h.1
      rw [← hk, h1]; exact ht
    · rw [if_neg hk] at ht
      exact ih h.2 ht

theorem Sat.sub {n : Nat} {e' e : Env} {a : Act} (h : Sat n e a) (hs : SubE e' e) : Sat n e' a := ⟨h.size, h.defers, fun t v ht => h.tmps t v (hs.get ht)⟩

/-! ### Code -/

section
variable (P : Program) (n : Nat)

/-- From whatever frame that the environment describes, in whatever world that the ghost and the owned things describe. -/
def EW (c : Code) (Q : Exit → Act → World → Prop) (e : Env) (I : Gh) (L : List Seg) : Prop := ∀ a w, Sat n e a → St I L w → c.wp P Q a w

def EL (ops : Array Oper) (rest : List Oper) (Q : Exit → Act → World → Prop) (e : Env) (I : Gh) (L : List Seg) : Prop := ∀ a w, Sat n e a → St I L w → wpList P ops Q rest a w

/-- What holds behind: in the same words. -/
def EQ (K : Act → World → Prop) (e : Env) (I : Gh) (L : List Seg) : Prop := ∀ a w, Sat n e a → St I L w → K a w
end

section
variable {P : Program} {n : Nat} {Q : Exit → Act → World → Prop} {e : Env} {I : Gh} {L : List Seg}

theorem EW_seq {c d : Code} (h : EW P n c (Exit.then (d.wp P Q) Q) e I L) : EW P n (.seq c d) Q e I L := fun a w ha hw => wp_seq (h a w ha hw)
theorem EW_skip (h : EQ n (Q .normal) e I L) : EW P n .skip Q e I L := fun a w ha hw => wp_skip (h a w ha hw)
theorem EW_ret (h : EQ n (Q .ret) e I L) : EW P n .ret Q e I L := fun a w ha hw => wp_ret (h a w ha hw)
theorem EW_exit {id : Nat} (h : EQ n (Q (.exit id)) e I L) : EW P n (.exit id) Q e I L := fun a w ha hw => wp_exit (h a w ha hw)
theorem EW_block {id : Nat} {c : Code} (h : EW P n c (Exit.inBlock id Q) e I L) : EW P n (.block id c) Q e I L := fun a w ha hw => wp_block (h a w ha hw)
theorem EW_region {id : Nat} {l : List Oper} (h : EL P n l.toArray l Q e I L) : EW P n (.region id l.toArray false) Q e I L := fun a w ha hw => wp_region_lit (h a w ha hw)
theorem EL_nil {ops : Array Oper} (h : EQ n (Q .normal) e I L) : EL P n ops [] Q e I L := fun a w ha hw => wpList_nil (h a w ha hw)
theorem EW_true {c : Operand} {x y : Code} (hc : ev e c = some (.bool true)) (h : EW P n x Q e I L) : EW P n (.cond c x y) Q e I L :=
  fun a w ha hw => wp_cond_true (ha.eval hc) (h a w ha hw)
theorem EW_false {c : Operand} {x y : Code} (hc : ev e c = some (.bool false)) (h : EW P n y Q e I L) : EW P n (.cond c x y) Q e I L :=
  fun a w ha hw => wp_cond_false (ha.eval hc) (h a w ha hw)
theorem EW_cond {c : Operand} {x y : Code} {t : Bool} (hc : ev e c = some (.bool t)) (ht : t = true → EW P n x Q e I L) (hf : t = false → EW P n y Q e I L) : EW P n (.cond c x y) Q e I L :=
  fun a w ha hw => wp_cond_split (ha.eval hc) (fun h => ht h a w ha hw) (fun h => hf h a w ha hw)

-- what stands behind a piece of code, told in the same words
theorem EQ_then {K : Act → World → Prop} (h : EQ n K e I L) : EQ n (Exit.then K Q .normal) e I L := h
theorem EQ_wp {c : Code} (h : EW P n c Q e I L) : EQ n (c.wp P Q) e I L := h
theorem EQ_then_ret {K : Act → World → Prop} (h : EQ n (Q .ret) e I L) : EQ n (Exit.then K Q .ret) e I L := h
theorem EQ_then_exit {K : Act → World → Prop} {id : Nat} (h : EQ n (Q (.exit id)) e I L) : EQ n (Exit.then K Q (.exit id)) e I L := h
theorem EQ_block_normal {id : Nat} (h : EQ n (Q .normal) e I L) : EQ n (Exit.inBlock id Q .normal) e I L := h
theorem EQ_block_ret {id : Nat} (h : EQ n (Q .ret) e I L) : EQ n (Exit.inBlock id Q .ret) e I L := h
theorem EQ_block_exit {id : Nat} (h : EQ n (Q .normal) e I L) : EQ n (Exit.inBlock id Q (.exit id)) e I L := fun a w ha hw => by simpa [Exit.inBlock] using h a w ha hw
theorem EQ_block_other {id j : Nat} (hj : Nat.beq j id = false) (h : EQ n (Q (.exit j)) e I L) : EQ n (Exit.inBlock id Q (.exit j)) e I L := fun a w ha hw => by
  have : j ≠ id := fun he => by subst he; simp at hj
  simpa [Exit.inBlock, this] using h a w ha hw

/-- Less may be said, and what is owned may be let go or laid in another order. -/
theorem EQ_weaken {K : Act → World → Prop} {e' : Env} {I' : Gh} {L' : List Seg} (hs : SubE e' e) (hst : ∀ w, St I L w → St I' L' w) (h : EQ n K e' I' L') : EQ n K e I L :=
  fun a w ha hw => h a w (ha.sub hs) (hst w hw)
theorem EW_weaken {c : Code} {e' : Env} {I' : Gh} {L' : List Seg} (hs : SubE e' e) (hst : ∀ w, St I L w → St I' L' w) (h : EW P n c Q e' I' L') : EW P n c Q e I L :=
  fun a w ha hw => h a w (ha.sub hs) (hst w hw)

/-- What holds behind a round. -/
def RoundPost {σ : Type} (n : Nat) (env : σ → Env) (gh : σ → Gh) (own : σ → List Seg) (inv : σ → Prop) (μ : σ → Nat) (s : σ) (a : Act) (w : World) : Prop :=
  ∃ s', inv s' ∧ μ s' < μ s ∧ Sat n (env s') a ∧ St (gh s') (own s') w

/-- A loop: a family of states, each with its environment, ghost and owned things; a measure goes down. -/
theorem EW_loop {σ : Type} {c : Code} (env : σ → Env) (gh : σ → Gh) (own : σ → List Seg) (inv : σ → Prop) (μ : σ → Nat) (s0 : σ) (h0 : inv s0)
    (hs : SubE (env s0) e) (hst : ∀ w, St I L w → St (gh s0) (own s0) w)
    (round : ∀ s, inv s → EW P n c (Exit.then (RoundPost n env gh own inv μ s) Q) (env s) (gh s) (own s)) :
    EW P n (.loop c) Q e I L := by
  intro a w ha hw b k cs
  have key : ∀ m s a w, μ s = m → inv s → Sat n (env s) a → St (gh s) (own s) w →
      ∃ e a' w', Q e a' w' ∧ Arrives P (lone (b.at a (.code c :: .inLoop c :: k)) cs w) b k cs e a' w' := by
    intro m
    induction m using Nat.strongRecOn with
    | _ m ih =>
      intro s a w hm hI ha hw
      obtain ⟨e, a₁, w₁, hq, harr⟩ := round s hI a w ha hw b (.inLoop c :: k) cs
      cases e with
      | normal =>
        obtain ⟨s', hI', hlt, ha', hw'⟩ := hq
        obtain ⟨e₂, a₂, w₂, hq₂, harr₂⟩ := ih (μ s') (hm ▸ hlt) s' a₁ w₁ rfl hI' ha' hw'
        exact ⟨e₂, a₂, w₂, hq₂, .of_steps (Steps.trans harr (.one step_inLoop)) harr₂⟩
      | exit id => exact ⟨_, a₁, w₁, hq, .pass (x := .inLoop c) rfl (fun _ _ => .inl (by simp)) harr⟩
      | goto l => exact ⟨_, a₁, w₁, hq, .pass (x := .inLoop c) rfl (fun _ _ => .inl (by simp)) harr⟩
      | ret => exact ⟨_, a₁, w₁, hq, .pass (x := .inLoop c) rfl (fun _ _ => .inl (by simp)) harr⟩
      | panic ch => exact ⟨_, a₁, w₁, hq, .pass (x := .inLoop c) rfl (fun _ _ => .inl (by simp)) harr⟩
      | outgrown => exact ⟨_, a₁, w₁, hq, .pass (x := .inLoop c) rfl (fun _ _ => .inl (by simp)) harr⟩
  obtain ⟨e, a', w', hq, harr⟩ := key _ s0 a w rfl h0 (ha.sub hs) (hst w hw)
  exact ⟨e, a', w', hq, .of_steps (.one step_loop) harr⟩

/-- The round's end. -/
theorem EQ_round {σ : Type} {env : σ → Env} {gh : σ → Gh} {own : σ → List Seg} {inv : σ → Prop} {μ : σ → Nat} {s : σ} (s' : σ) (hi : inv s') (hm : μ s' < μ s)
    (hs : SubE (env s') e) (hst : ∀ w, St I L w → St (gh s') (own s') w) :
    EQ n (Exit.then (RoundPost n env gh own inv μ s) Q .normal) e I L :=
  fun _ w ha hw => ⟨s', hi, hm, ha.sub hs, hst w hw⟩

/-! ### Functions -/

/-- What a call comes to. -/
def Ret (post : Gh → List Seg → Value → Prop) (e : Ending) (w : World) : Prop := ∃ I L v, e = .returned v ∧ St I L w ∧ post I L v

/-- A call, in whatever world that fits. -/
def FC (P : Program) (f : FuncId) (args : Array Value) (I : Gh) (L : List Seg) (post : Gh → List Seg → Value → Prop) : Prop :=
  ∀ w, St I L w → Calls P f args w (Ret post)

def Incl (L M : List Seg) : Prop := ∃ E, (E ++ L.flatten).Perm M.flatten
theorem Incl.refl (L : List Seg) : Incl L L := ⟨[], by simp⟩
theorem Incl.trans {A B C : List Seg} (h : Incl A B) (k : Incl B C) : Incl A C := by
  obtain ⟨E, hE⟩ := h
  obtain ⟨F, hF⟩ := k
  refine ⟨F ++ E, ?_⟩
  rw [List.append_assoc]
  exact (List.Perm.append_left F hE).trans hF

/-- A call that only computes and makes: whatever has been frozen besides, whatever is owned besides 'L' (which it may read). -/
def PC (P : Program) (f : FuncId) (args : Array Value) (I : Gh) (L : List Seg) (post : Gh → Value → Prop) : Prop :=
  ∀ J M, I.le J → Incl L M → FC P f args J M fun K N v => J.le K ∧ N = M ∧ post K v

theorem PC.le {f : FuncId} {args : Array Value} {I J : Gh} {L M : List Seg} {post : Gh → Value → Prop} (h : PC P f args I L post) (hI : I.le J) (hL : Incl L M) : PC P f args J M post :=
  fun K N hK hN => h K N (hI.trans hK) (hL.trans hN)

theorem PC.mono {f : FuncId} {args : Array Value} {I : Gh} {L : List Seg} {post post' : Gh → Value → Prop} (h : PC P f args I L post) (hp : ∀ K v, I.le K → post K v → post' K v) : PC P f args I L post' :=
  fun J M hJ hM w hw => (h J M hJ hM w hw).mono fun _ _ ⟨K, N, v, he, hs, hk, hm, hv⟩ => ⟨K, N, v, he, hs, hk, hm, hp K v (hJ.trans hk) hv⟩

/-- The first environment: the arguments. -/
def envOf : Nat → List Value → Env
  | _, [] => []
  | k, v :: r => (k, v) :: envOf (k + 1) r

theorem get_envOf (l : List Value) : ∀ k t v, get (envOf k l) t = some v → k ≤ t ∧ l[t - k]? = some v := by
  induction l with
  | nil => intro k t v h; cases h
  | cons x r ih =>
    intro k t v h
    simp only [envOf, get_cons] at h
    by_cases hk : k = t
    · rw [if_pos hk] at h; subst hk; simpa using h
    · rw [if_neg hk] at h
      obtain ⟨h1, h2⟩ := ih _ _ _ h
      refine ⟨by omega, ?_⟩
      rw [show t - k = (t - (k + 1)) + 1 by omega]
      simpa using h2

theorem FC.of {f : FuncId} {fn : Func} {c : Code} {args : List Value} {I : Gh} {L : List Seg} {post : Gh → List Seg → Value → Prop}
    (hf : P.funcs[f]? = some fn) (hb : fn.body = some c) (hn : fn.ntmps = n) (hle : Nat.ble args.length n = true)
    (h : EW P n c (bodyPost P fn (Ret post)) (envOf 0 args) I L) : FC P f args.toArray I L post := by
  intro w hw
  refine calls_of_wp hf hb (h _ w ⟨?_, rfl, ?_⟩ hw)
  · have := Nat.le_of_ble_eq_true hle
    simp [hn]; omega
  · intro t v ht
    obtain ⟨_, h2⟩ := get_envOf _ _ _ _ ht
    have hlt : t < args.length := by
      have := List.getElem?_eq_some_iff.1 h2
      simpa using this.1
    simp only [Nat.sub_zero] at h2
    rw [Array.getElem?_append_left (by simpa using hlt)]
    simpa using h2

theorem PC.of {f : FuncId} {fn : Func} {c : Code} {args : List Value} {I : Gh} {L : List Seg} {post : Gh → Value → Prop}
    (hf : P.funcs[f]? = some fn) (hb : fn.body = some c) (hn : fn.ntmps = n) (hle : Nat.ble args.length n = true)
    (h : ∀ J M, I.le J → Incl L M → EW P n c (bodyPost P fn (Ret fun K N v => J.le K ∧ N = M ∧ post K v)) (envOf 0 args) J M) : PC P f args.toArray I L post :=
  fun J M hJ hM => FC.of hf hb hn hle (h J M hJ hM)

/-- Results. -/
def resE (e : Env) : List ResultVar → Option (List Value)
  | [] => some []
  | .tmp t :: r => match get e t, resE e r with | some v, some l => some (v :: l) | _, _ => none
  | .cell _ _ :: _ => none

def resV : List Value → Value
  | [v] => v
  | l => .tuple l.toArray

end
end Go.Gl
