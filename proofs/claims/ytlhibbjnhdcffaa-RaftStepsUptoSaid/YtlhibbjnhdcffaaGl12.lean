/- The logic 'Gl', part 12: plans of drawn regions, checked faster: what each operation waits for, writes and looks at, as numbers. -/
import Derived.Test.YtlhibbjnhdcffaaGl11
namespace Go.Gl
open Go

/-- An operation, as a plan sees it: what it waits for at once; its slot; the slots that it looks at; its kind; all that it waits for, as bits. -/
structure Inf where
  deps : List Nat
  dst : Option Nat
  looks : List Nat
  kd : Kd
  anc : Nat
def infOf (ops : Array Oper) (o : Oper) : List Nat × Option Nat × List Nat := ((o.after.toList.filter (Region.binds .any)).map (·.on), o.dst, o.looksAt ops)
def tb (m i : Nat) : Bool := Nat.beq (Nat.land (Nat.shiftRight m i) 1) 1
theorem tb_eq (m i : Nat) : tb m i = m.testBit i := by
  unfold tb Nat.testBit
  have h : (m >>> i) &&& 1 = (1 &&& (m >>> i)) := Nat.and_comm _ _
  show Nat.beq ((m >>> i) &&& 1) 1 = _
  rw [h]
  have h2 : 1 &&& (m >>> i) = (m >>> i) % 2 := by rw [Nat.and_comm, Nat.and_one_is_mod]
  rw [h2]
  rcases Nat.mod_two_eq_zero_or_one (m >>> i) with h3 | h3 <;> rw [h3] <;> rfl
def ancOf (l : List Inf) (deps : List Nat) : Nat := deps.foldl (fun m d => Nat.lor m (Nat.lor (Nat.shiftLeft 1 d) (match l[d]? with | some x => x.anc | none => 0))) 0
def ancGo (l : List Inf) : Nat → List Inf → Bool
  | _, [] => true
  | i, x :: r => x.deps.all (fun d => Nat.blt d i) && Nat.beq x.anc (ancOf l x.deps) && ancGo l (i + 1) r
def apartI (x y : Inf) : Bool :=
  (match x.dst with
   | some d => !(y.looks.any (Nat.beq d)) && (match y.dst with | some d' => !(Nat.beq d' d) | none => true)
   | none => true) &&
  (match y.dst with
   | some d => !(x.looks.any (Nat.beq d))
   | none => true)
def restB (y : Inf) (j m : Nat) : Nat → List Inf → Bool
  | _, [] => true
  | i, x :: r => (Nat.beq i j || tb m i || tb x.anc j || (ahead y.kd x.kd && apartI y x)) && restB y j m (i + 1) r
def planC (l : List Inf) : List Nat → Nat → Bool
  | [], m => Nat.beq m (Nat.sub (Nat.shiftLeft 1 l.length) 1)
  | j :: r, m => match l[j]? with
    | some y => !(tb m j) && y.deps.all (tb m) && restB y j m 0 l && planC l r (Nat.lor m (Nat.shiftLeft 1 j))
    | none => false

section
variable {P : Program} {ops : Array Oper} {Q : Exit → Act → World → Prop} {keep : List Seg} {kd : Nat → Kd}
theorem waits_succ {j : Nat} : ∀ (f i : Nat), waits ops f i j = true → waits ops (f + 1) i j = true
  | 0, i, h => by simp [waits] at h
  | f + 1, i, h => by
    unfold waits at h ⊢
    cases ho : ops[i]? with
    | none => rw [ho] at h; cases h
    | some o =>
      rw [ho] at h
      simp only at h ⊢
      obtain ⟨e, he, hb⟩ := Array.any_eq_true'.1 h
      simp only [Bool.and_eq_true, Bool.or_eq_true] at hb
      refine Array.any_eq_true'.2 ⟨e, he, ?_⟩
      simp only [Bool.and_eq_true, Bool.or_eq_true]
      exact ⟨hb.1, hb.2.imp id (waits_succ f _)⟩
theorem waits_le {j i f g : Nat} (h : waits ops f i j = true) (hfg : f ≤ g) : waits ops g i j = true := by
  obtain ⟨k, rfl⟩ := Nat.exists_eq_add_of_le hfg
  clear hfg
  induction k with
  | zero => exact h
  | succ k ih => exact waits_succ _ _ ih
theorem testBit_ancOf (l : List Inf) (j : Nat) : ∀ (deps : List Nat) (m : Nat), (deps.foldl (fun m d => Nat.lor m (Nat.lor (Nat.shiftLeft 1 d) (match l[d]? with | some x => x.anc | none => 0))) m).testBit j = true →
    m.testBit j = true ∨ ∃ d ∈ deps, d = j ∨ ∃ x, l[d]? = some x ∧ x.anc.testBit j = true
  | [], m, h => .inl h
  | d :: r, m, h => by
    rcases testBit_ancOf l j r _ h with h | ⟨d', hd', h⟩
    · have h1 : (m ||| ((1 <<< d) ||| (match l[d]? with | some x => x.anc | none => 0))).testBit j = true := h
      rw [Nat.testBit_or, Nat.testBit_or, Bool.or_eq_true, Bool.or_eq_true] at h1
      rcases h1 with h1 | h1 | h1
      · exact .inl h1
      · refine .inr ⟨d, List.mem_cons_self, .inl ?_⟩
        rw [Nat.one_shiftLeft, Nat.testBit_two_pow] at h1
        simpa using h1
      · refine .inr ⟨d, List.mem_cons_self, .inr ?_⟩
        cases hl : l[d]? with
        | none => rw [hl] at h1; simp at h1
        | some x => rw [hl] at h1; exact ⟨x, rfl, h1⟩
    · exact .inr ⟨d', List.mem_cons_of_mem _ hd', h⟩
theorem ancGo_spec {l : List Inf} : ∀ (r : List Inf) (i : Nat), ancGo l i r = true → ∀ k x, r[k]? = some x → (∀ d ∈ x.deps, d < i + k) ∧ x.anc = ancOf l x.deps
  | [], _, _, k, x, hx => by simp at hx
  | y :: r, i, h, 0, x, hx => by
    simp only [List.getElem?_cons_zero, Option.some.injEq] at hx
    subst hx
    simp only [ancGo, Bool.and_eq_true] at h
    refine ⟨fun d hd => ?_, Nat.eq_of_beq_eq_true h.1.2⟩
    have h1 := List.all_eq_true.1 h.1.1 d hd
    have h2 : Nat.ble (d + 1) i = true := h1
    have := Nat.le_of_ble_eq_true h2
    omega
  | y :: r, i, h, k + 1, x, hx => by
    simp only [ancGo, Bool.and_eq_true] at h
    have := ancGo_spec r (i + 1) h.2 k x (by simpa using hx)
    rw [show i + (k + 1) = i + 1 + k by omega]
    exact this
theorem inf_at {l : List Inf} (hinf : ops.toList.map (infOf ops) = l.map fun x => (x.deps, x.dst, x.looks)) {i : Nat} {o : Oper} (ho : ops[i]? = some o) : ∃ x, l[i]? = some x ∧ x.deps = (o.after.toList.filter (Region.binds .any)).map (·.on) ∧ x.dst = o.dst ∧ x.looks = o.looksAt ops := by
  have h := congrArg (fun z => z[i]?) hinf
  simp only [List.getElem?_map, Array.getElem?_toList, ho, Option.map_some] at h
  cases hl : l[i]? with
  | none => rw [hl] at h; simp at h
  | some x =>
    rw [hl] at h
    simp only [Option.map_some, Option.some.injEq, infOf, Prod.mk.injEq] at h
    exact ⟨x, rfl, h.1.symm, h.2.1.symm, h.2.2.symm⟩
theorem waits_anc {l : List Inf} (hinf : ops.toList.map (infOf ops) = l.map fun x => (x.deps, x.dst, x.looks)) (ha : ancGo l 0 l = true) (j : Nat) : ∀ (i : Nat) (o : Oper) (x : Inf), ops[i]? = some o → l[i]? = some x → x.anc.testBit j = true → waits ops (i + 1) i j = true := by
  intro i
  induction i using Nat.strongRecOn with
  | _ i ih =>
    intro o x ho hx hb
    obtain ⟨x', hx', hd, _, _⟩ := inf_at hinf ho
    have : x' = x := Option.some.inj (hx'.symm.trans hx)
    subst this
    obtain ⟨hlt, hanc⟩ := ancGo_spec l 0 ha i x' hx
    rw [hanc] at hb
    rcases testBit_ancOf l j x'.deps 0 hb with h | ⟨d, hdm, h⟩
    · simp at h
    · have hdi := hlt d hdm
      rw [hd] at hdm
      obtain ⟨e, he, rfl⟩ := List.mem_map.1 hdm
      obtain ⟨he1, he2⟩ := List.mem_filter.1 he
      unfold waits
      rw [ho]
      refine Array.any_eq_true'.2 ⟨e, by simpa using he1, ?_⟩
      simp only [Bool.and_eq_true, Bool.or_eq_true]
      refine ⟨he2, ?_⟩
      rcases h with rfl | ⟨x2, hx2, hb2⟩
      · exact .inl (Nat.beq_refl _)
      · right
        have hsz : l.length = ops.size := by have := congrArg List.length hinf; simpa using this.symm
        have hol : e.on < ops.size := by rw [← hsz]; exact (List.getElem?_eq_some_iff.1 hx2).1
        obtain ⟨o2, ho2⟩ : ∃ o2, ops[e.on]? = some o2 := ⟨ops[e.on], by simp [hol]⟩
        exact waits_le (ih e.on (by omega) o2 x2 ho2 hx2 hb2) (by omega)
theorem apartI_spec {ox oy : Oper} {x y : Inf} (hx : x.dst = ox.dst ∧ x.looks = ox.looksAt ops) (hy : y.dst = oy.dst ∧ y.looks = oy.looksAt ops) (h : apartI x y = true) : ox.apart ops oy = true := by
  have hc : ∀ (d : Nat) (l : List Nat), l.contains d = l.any (Nat.beq d) := by
    intro d l
    induction l with
    | nil => rfl
    | cons a r ih => simp only [List.contains_cons, List.any_cons, ih]; congr 1; rw [Bool.eq_iff_iff]; exact ⟨fun h => by rw [eq_of_beq h]; exact Nat.beq_refl _, fun h => by rw [Nat.eq_of_beq_eq_true h]; exact beq_self_eq_true _⟩
  unfold apartI at h
  unfold Oper.apart
  rw [hx.1, hx.2, hy.1, hy.2] at h
  simp only [Bool.and_eq_true] at h ⊢
  refine ⟨?_, ?_⟩
  · cases hd : ox.dst with
    | none => rfl
    | some d =>
      rw [hd] at h
      simp only at h ⊢
      rw [hc, Bool.and_eq_true]
      have h1 := h.1
      rw [Bool.and_eq_true] at h1
      refine ⟨h1.1, ?_⟩
      cases hd2 : oy.dst with
      | none => rfl
      | some d' =>
        rw [hd2] at h1
        have := h1.2
        simp only [Bool.not_eq_true'] at this
        rw [bne_iff_ne]
        intro he
        cases he
        simp at this
  · cases hd : oy.dst with
    | none => rfl
    | some d => rw [hd] at h; simp only at h ⊢; rw [hc]; exact h.2
theorem restB_spec {y : Inf} {j m : Nat} : ∀ (r : List Inf) (i : Nat), restB y j m i r = true → ∀ k x, r[k]? = some x → i + k = j ∨ m.testBit (i + k) = true ∨ x.anc.testBit j = true ∨ (ahead y.kd x.kd = true ∧ apartI y x = true)
  | [], _, _, k, x, hx => by simp at hx
  | z :: r, i, h, 0, x, hx => by
    simp only [List.getElem?_cons_zero, Option.some.injEq] at hx
    subst hx
    simp only [restB, Bool.and_eq_true, Bool.or_eq_true, tb_eq] at h
    rcases h.1 with ((h | h) | h) | h
    · exact .inl (by have := Nat.eq_of_beq_eq_true h; omega)
    · exact .inr (.inl (by simpa using h))
    · exact .inr (.inr (.inl h))
    · exact .inr (.inr (.inr h))
  | z :: r, i, h, k + 1, x, hx => by
    simp only [restB, Bool.and_eq_true] at h
    have := restB_spec r (i + 1) h.2 k x (by simpa using hx)
    rw [show i + (k + 1) = i + 1 + k by omega]
    exact this

theorem Pl_JdC (hsel : ∀ (j : Nat) (o : Oper) cs b, ops[j]? = some o → o.op ≠ .select cs b) {l : List Inf} (hinf : ops.toList.map (infOf ops) = l.map fun x => (x.deps, x.dst, x.looks)) (ha : ancGo l 0 l = true) (hkd : ∀ i x, l[i]? = some x → kd i = x.kd) :
    ∀ (pl : List Nat) (listed : Array Bool) (m : Nat) (a : Act) (I : Gh) (L : List Seg), Closed ops listed → listed.size = ops.size → (∀ i, i < ops.size → listed.getD i true = m.testBit i) →
    planC l pl m = true → Pl P ops Q keep kd pl a I L → Jd P ops Q keep kd pl.length listed a I L
  | [], listed, m, a, I, L, hc, hsz, hm, hB, h => fun _ => ⟨by
      have hlen : l.length = ops.size := by have := congrArg List.length hinf; simpa using this.symm
      have hB2 : m = 2 ^ ops.size - 1 := by
        have := Nat.eq_of_beq_eq_true hB
        rw [this, hlen]
        show (1 <<< ops.size) - 1 = _
        rw [Nat.one_shiftLeft]
      apply List.eq_nil_iff_forall_not_mem.2
      intro i hi
      obtain ⟨hu, o, ho, _⟩ := mem_ready.1 hi
      have hlt := (Array.getElem?_eq_some_iff.1 ho).1
      have := hm i hlt
      rw [hB2, Nat.testBit_two_pow_sub_one] at this
      rw [hu] at this
      simp [hlt] at this, h⟩
  | j :: r, listed, m, a, I, L, hc, hsz, hm, hB, h => by
    simp only [planC] at hB
    cases hl : l[j]? with
    | none => rw [hl] at hB; cases hB
    | some y =>
      rw [hl] at hB
      simp only [Bool.and_eq_true, Bool.not_eq_true', tb_eq] at hB
      obtain ⟨⟨⟨h1, h2⟩, h3⟩, h4⟩ := hB
      have hlen : l.length = ops.size := by have := congrArg List.length hinf; simpa using this.symm
      have hjl : j < ops.size := by rw [← hlen]; exact (List.getElem?_eq_some_iff.1 hl).1
      obtain ⟨oj, hj⟩ : ∃ oj, ops[j]? = some oj := ⟨ops[j], by simp [hjl]⟩
      obtain ⟨y', hy', hyd, hyw, hyl⟩ := inf_at hinf hj
      have : y' = y := Option.some.inj (hy'.symm.trans hl)
      subst this
      have hr : j ∈ Region.ready .any ops listed := mem_ready.2 ⟨by rw [hm j hjl]; exact h1, oj, hj, fun e he hb => by
        have hd : e.on ∈ y'.deps := by rw [hyd]; exact List.mem_map.2 ⟨e, List.mem_filter.2 ⟨by simpa using he, hb⟩, rfl⟩
        have h5 := List.all_eq_true.1 h2 e.on hd
        rw [tb_eq] at h5
        have hlt := (ancGo_spec l 0 ha j y' hl).1 e.on hd
        have h6 := hm e.on (by omega)
        rw [h5] at h6
        have : e.on < listed.size := by omega
        simp [this] at h6 ⊢
        exact h6⟩
      refine Jd_first hsel ops.size hj r.length listed a I L hc hr ?_ (Stp_mono (fun a' I' L' h => Pl_JdC hsel hinf ha hkd r _ (Nat.lor m (Nat.shiftLeft 1 j)) a' I' L' (hc.set hr) (by simpa using hsz) ?_ h4 h) (h oj hj))
      · intro i oi hoi hij hun
        obtain ⟨x, hx, hxd, hxw, hxl⟩ := inf_at hinf hoi
        have hil := (Array.getElem?_eq_some_iff.1 hoi).1
        rcases restB_spec l 0 h3 i x hx with h5 | h5 | h5 | ⟨h5, h6⟩
        · omega
        · rw [Nat.zero_add] at h5; rw [hm i hil, h5] at hun; cases hun
        · exact .inl (waits_le (waits_anc hinf ha j i oi x hoi hx h5) (by omega))
        · refine .inr ⟨?_, apartI_spec ⟨hyw, hyl⟩ ⟨hxw, hxl⟩ h6⟩
          rw [hkd j y' hl, hkd i x hx]; exact h5
      · intro i hi
        show _ = (m ||| (1 <<< j)).testBit i
        rw [Nat.testBit_or, Nat.one_shiftLeft, Nat.testBit_two_pow, ← hm i hi]
        by_cases hij : j = i
        · subst hij
          have : j < listed.size := by omega
          simp [this]
        · rw [getD_set_ne true hij]
          simp [hij]

theorem EW_drawC {n : Nat} {id : Nat} {e : Env} {I : Gh} {L : List Seg} (keep : List Seg) (l : List Inf) (kl : List Kd) (pl : List Nat) (hm : P.follows .mixedOrders = true) (hs : Region.noSelect ops = true)
    (hinf : ops.toList.map (infOf ops) = l.map fun x => (x.deps, x.dst, x.looks)) (hB : (ancGo l 0 l && planC l pl 0) = true) (hkl : l.map (·.kd) = kl) (hl : pl.length = ops.size) (h : EP P n ops Q keep (kdOf kl) pl e I L) : EW P n (.region id ops true) Q e I L := by
  intro a w ha hw
  refine wp_region_any hm ?_
  have hc : Closed ops (Array.replicate ops.size false) := by
    intro i o ho hi
    have hlt := (Array.getElem?_eq_some_iff.1 ho).1
    simp [hlt] at hi
  rw [Bool.and_eq_true] at hB
  have := Pl_JdC (P := P) (Q := Q) (keep := keep) (kd := kdOf kl) (Region.noSelect_spec hs) hinf hB.1 (fun i x hx => by
    subst hkl
    simp [kdOf, List.getD, hx]) pl _ 0 a I L hc (by simp) (fun i hi => by simp [hi]) hB.2 (h a ha)
  rw [hl] at this
  exact Jd_sound _ _ a I L _ (hw.drawn _) this
end
end Go.Gl
