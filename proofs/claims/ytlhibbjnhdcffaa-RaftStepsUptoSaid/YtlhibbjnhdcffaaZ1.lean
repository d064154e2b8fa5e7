/- Proved here: the part Z1 of the proof that the law of this seat returns true for every input; no condition. -/
import Derived.Test.YtlhibbjnhdcffaaR
set_option maxRecDepth 20000
set_option linter.unusedVariables false
set_option linter.unusedSimpArgs false
namespace Go.Proofs.Ytlhibbjnhdcffaa
open Go Go.Gl

/-! ### What a node's steps keep -/
theorem risingP_le {l : List EntryP} {lo hi : Nat} (h : risingP l lo hi = true) : lo ≤ hi := by
  induction l generalizing lo with
  | nil => simpa [risingP] using h
  | cons e r ih =>
    unfold risingP at h
    split at h
    · cases h
    · have := ih h
      omega
theorem risingP_mem {l : List EntryP} {lo hi : Nat} (h : risingP l lo hi = true) : ∀ e ∈ l, e.Term ≤ hi := by
  induction l generalizing lo with
  | nil => simp
  | cons e r ih =>
    unfold risingP at h
    split at h
    · cases h
    · intro x hx
      rcases List.mem_cons.1 hx with rfl | hx
      · exact risingP_le h
      · exact ih h x hx
theorem risingP_high {l : List EntryP} {lo hi hi' : Nat} (h : risingP l lo hi = true) (hh : hi ≤ hi') : risingP l lo hi' = true := by
  induction l generalizing lo with
  | nil => simp only [risingP, decide_eq_true_eq] at h ⊢; omega
  | cons e r ih =>
    unfold risingP at h ⊢
    split at h
    · cases h
    · rename_i hn
      rw [if_neg hn]
      exact ih h
theorem risingP_snoc {l : List EntryP} {lo hi : Nat} {e : EntryP} (h : risingP l lo hi = true) (he : e.Term = hi) : risingP (l ++ [e]) lo hi = true := by
  induction l generalizing lo with
  | nil =>
    simp only [risingP, decide_eq_true_eq] at h
    simp only [List.nil_append, risingP]
    rw [if_neg (by omega)]
    simp only [decide_eq_true_eq]
    omega
  | cons x r ih =>
    unfold risingP at h
    rw [List.cons_append]
    unfold risingP
    split at h
    · cases h
    · rename_i hn
      rw [if_neg hn]
      exact ih h
/-- The first j of some entries, and behind them others that rise from the term of the last of these. -/
theorem risingP_splice {E l : List EntryP} {lo hi j : Nat} (h : risingP E lo hi = true) (hj : j ≤ E.length) (hl : risingP l (if j = 0 then lo else ((E[j - 1]?.map (·.Term)).getD 0)) hi = true) : risingP (E.take j ++ l) lo hi = true := by
  induction E generalizing lo j with
  | nil =>
    have : j = 0 := by simpa using hj
    subst this
    simpa using hl
  | cons e r ih =>
    cases j with
    | zero => simpa using hl
    | succ j =>
      unfold risingP at h
      rw [List.take_succ_cons, List.cons_append]
      unfold risingP
      split at h
      · cases h
      · rename_i hn
        rw [if_neg hn]
        refine ih h (by simpa using hj) ?_
        cases j with
        | zero => simpa using hl
        | succ j => simpa using hl
namespace NodeP
/-- What stays true of the node that the law speaks of: it is node 0 of n, its limit is 3, its log has at most c entries. -/
structure Good (n : Int) (c : Nat) (r : NodeP) : Prop where
  n1 : 1 ≤ n
  n5 : n ≤ 5
  id0 : r.id = 0
  nn : r.n = n
  lim : r.limit = 3
  clk : 0 ≤ r.clock ∧ r.clock ≤ 2000
  base : r.Base ≤ 4611686018427387904
  term : r.Term ≤ 4611686018427387904
  len : r.Entries.length ≤ c
  role : 0 ≤ r.role ∧ r.role ≤ 3
  ris : risingP r.Entries r.BaseTerm r.Term = true
  vote : -1 ≤ r.Vote ∧ r.Vote < n
  com : r.Base ≤ r.commit ∧ r.commit ≤ r.last
  vts : r.role = 1 ∨ r.role = 2 → (r.votes.length : Int) = r.n
  mat : r.role = 3 → (r.match_.length : Int) = r.n
  nxt : r.role = 3 → (r.next.length : Int) = r.n
  mbd : ∀ x ∈ r.match_, x ≤ 9100000000000000000
theorem Good.few {n : Int} {c : Nat} {r : NodeP} (h : Good n c r) (hc : c ≤ 1000000) : r.Few :=
  ⟨by have := h.base; omega, by have := h.len; omega, h.term, by rw [h.id0]; exact Int.le_refl 0, by rw [h.id0, h.nn]; have := h.n1; omega, by rw [h.nn]; exact h.n5, by rw [h.lim]; decide, by rw [h.lim]; decide, h.clk.1, h.clk.2,
    by have h1 := risingP_le h.ris; have h2 := h.term; omega, fun e he => Nat.le_trans (risingP_mem h.ris e he) h.term, by have h1 := h.com.2; have h2 := h.base; have h3 := h.len; unfold NodeP.last at h1; omega⟩
theorem Good.more {n : Int} {c c' : Nat} {r : NodeP} (h : Good n c r) (hc : c ≤ c') : Good n c' r := { h with len := Nat.le_trans h.len hc }
/-- Terms and commits never fall, and one votes once a term. -/
structure Le (r s : NodeP) : Prop where
  term : r.Term ≤ s.Term
  com : r.commit ≤ s.commit
  vote : s.Term = r.Term → r.Vote ≠ -1 → s.Vote = r.Vote
theorem Le.refl (r : NodeP) : Le r r := ⟨Nat.le_refl _, Nat.le_refl _, fun _ _ => rfl⟩
theorem Le.trans {r s t : NodeP} (h : Le r s) (k : Le s t) : Le r t :=
  ⟨Nat.le_trans h.term k.term, Nat.le_trans h.com k.com, fun e hv => by
    have h1 := h.term
    have h2 := k.term
    have h3 := h.vote (by omega) hv
    rw [k.vote (by omega) (by rw [h3]; exact hv), h3]⟩
/-- A message that the node may send. -/
structure Fine (n : Int) (t : Nat) (a : MsgP) : Prop where
  from_ : a.From = 0
  to1 : 1 ≤ a.To
  ton : a.To < n
  kind : 1 ≤ a.Kind ∧ a.Kind ≤ 7
  term : a.Kind ≠ 2 → a.Term ≤ t + 1
theorem Fine.more {n : Int} {t t' : Nat} {a : MsgP} (h : Fine n t a) (ht : t ≤ t') : Fine n t' a := ⟨h.from_, h.to1, h.ton, h.kind, fun hk => by have := h.term hk; omega⟩
structure Does (n : Int) (c : Nat) (r : NodeP) (p : NodeP × List MsgP) : Prop where
  good : Good n c p.1
  le : Le r p.1
  fine : ∀ a ∈ p.2, Fine n p.1.Term a
theorem Does.of_le {n : Int} {c : Nat} {r s : NodeP} {p : NodeP × List MsgP} (h : Does n c s p) (k : Le r s) : Does n c r p := ⟨h.good, k.trans h.le, h.fine⟩
theorem Does.more {n : Int} {c c' : Nat} {r : NodeP} {p : NodeP × List MsgP} (h : Does n c r p) (hc : c ≤ c') : Does n c' r p := ⟨h.good.more hc, h.le, h.fine⟩
theorem Does.quiet {n : Int} {c : Nat} {r s : NodeP} (h : Good n c s) (k : Le r s) : Does n c r (s, []) := ⟨h, k, fun a ha => by cases ha⟩
theorem others_mem {r : NodeP} {F : Int → MsgP} {a : MsgP} (h : a ∈ r.others F) : ∃ k : Nat, (k : Int) < r.n ∧ ¬ (k : Int) = r.id ∧ a = { F (k : Int) with From := r.id, To := (k : Int) } := by
  unfold NodeP.others at h
  obtain ⟨k, hk, rfl⟩ := List.mem_map.1 h
  simp only [List.mem_filter, List.mem_range, Bool.not_eq_true', decide_eq_false_iff_not] at hk
  exact ⟨k, by omega, hk.2, rfl⟩
theorem fine_others {n : Int} {c t : Nat} {r : NodeP} (h : Good n c r) {F : Int → MsgP} (hF : ∀ k, (1 ≤ (F k).Kind ∧ (F k).Kind ≤ 7) ∧ (F k).Term ≤ t + 1) : ∀ a ∈ r.others F, Fine n t a := by
  intro a ha
  obtain ⟨k, h1, h2, rfl⟩ := others_mem ha
  rw [h.nn] at h1
  rw [h.id0] at h2
  exact ⟨h.id0, by show 1 ≤ (k : Int); omega, h1, (hF k).1, fun _ => (hF k).2⟩
theorem send_kind (r : NodeP) (k : Int) : (1 ≤ (r.send k).Kind ∧ (r.send k).Kind ≤ 7) ∧ (r.send k).Term = r.Term := by
  unfold NodeP.send
  split
  · exact ⟨⟨by dsimp only; omega, by dsimp only; omega⟩, rfl⟩
  · exact ⟨⟨by dsimp only; omega, by dsimp only; omega⟩, rfl⟩
theorem Good.idle {n : Int} {c : Nat} {r s : NodeP} (h : Good n c r) (h1 : s.id = r.id) (h2 : s.n = r.n) (h3 : s.limit = r.limit) (h4 : 0 ≤ s.clock ∧ s.clock ≤ 2000) (h5 : s.Base = r.Base) (h6 : s.Term ≤ 4611686018427387904) (h7 : s.Entries = r.Entries) (h8 : r.Term ≤ s.Term) (h9 : s.BaseTerm = r.BaseTerm) (h10 : -1 ≤ s.Vote ∧ s.Vote < n)
    (h11 : s.commit = r.commit) (h12 : s.match_ = r.match_) (hr : 0 ≤ s.role ∧ s.role ≤ 3) (hv : s.role = 1 ∨ s.role = 2 → (s.votes.length : Int) = s.n) (hm : s.role = 3 → r.role = 3 ∧ s.next = r.next) : Good n c s :=
  ⟨h.n1, h.n5, h1.trans h.id0, h2.trans h.nn, h3.trans h.lim, h4, h5 ▸ h.base, h6, h7 ▸ h.len, hr, by rw [h7, h9]; exact risingP_high h.ris h8, h10, by unfold NodeP.last; rw [h11, h5, h7]; exact h.com, hv,
    fun e => by rw [h12, h2]; exact h.mat (hm e).1, fun e => by rw [(hm e).2, h2]; exact h.nxt (hm e).1, by rw [h12]; exact h.mbd⟩
theorem Good.follow {n : Int} {c : Nat} {r : NodeP} (h : Good n c r) {t : Nat} (ht : t ≤ 4611686018427387904) (l : Int) : Good n c (r.follow t l) := by
  have hn := h.n1
  unfold NodeP.follow
  split
  · rename_i hlt
    exact h.idle rfl rfl rfl h.clk rfl ht rfl (Nat.le_of_lt hlt) rfl ⟨Int.le_refl _, by dsimp only; omega⟩ rfl rfl ⟨Int.le_refl 0, by dsimp only; omega⟩ (fun hh => by dsimp only at hh; omega) (fun hh => by dsimp only at hh; omega)
  · exact h.idle rfl rfl rfl h.clk rfl h.term rfl (Nat.le_refl _) rfl h.vote rfl rfl ⟨Int.le_refl 0, by dsimp only; omega⟩ (fun hh => by dsimp only at hh; omega) (fun hh => by dsimp only at hh; omega)
theorem le_follow (r : NodeP) (t : Nat) (l : Int) : Le r (r.follow t l) := by
  unfold NodeP.follow
  split
  · rename_i hlt
    exact ⟨Nat.le_of_lt hlt, Nat.le_refl _, fun e => by have : t = r.Term := e; omega⟩
  · exact ⟨Nat.le_refl _, Nat.le_refl _, fun _ _ => rfl⟩
theorem follow_term {r : NodeP} {t : Nat} (l : Int) (h : r.Term ≤ t) : (r.follow t l).Term = t := by
  unfold NodeP.follow
  split
  · rfl
  · show r.Term = t; omega
theorem Good.agree {n : Int} {c : Nat} {r : NodeP} (h : Good n c r) : Good n c r.agree := by
  unfold NodeP.agree
  split
  · rename_i hc
    have h1 := termAt_in hc.1
    exact { h with com := h1 }
  · exact h
theorem le_agree (r : NodeP) : Le r r.agree := by
  unfold NodeP.agree
  split
  · rename_i hc
    exact ⟨Nat.le_refl _, Nat.le_of_lt hc.2, fun _ _ => rfl⟩
  · exact .refl r
theorem Good.grow {n : Int} {c : Nat} {r : NodeP} (h : Good n c r) (hc : c ≤ 1000000) (d : List UInt8) : Good n (c + 1) (r.grow d) := by
  have hl := h.len
  have hb := h.base
  exact ⟨h.n1, h.n5, h.id0, h.nn, h.lim, h.clk, h.base, h.term, by simp only [NodeP.grow, List.length_append, List.length_cons, List.length_nil]; omega, h.role, risingP_snoc h.ris rfl, h.vote,
    ⟨h.com.1, by have h1 := h.com.2; unfold NodeP.last at h1; show r.commit ≤ r.Base + (r.Entries ++ _).length; rw [List.length_append]; omega⟩, h.vts,
    fun hr => by show (((r.match_.set _ _).length : Nat) : Int) = r.n; rw [List.length_set]; exact h.mat hr, h.nxt, fun x hx => by
      rcases List.mem_or_eq_of_mem_set hx with hx | rfl
      · exact h.mbd x hx
      · unfold NodeP.last; omega⟩
theorem does_add {n : Int} {c : Nat} {r : NodeP} (h : Good n c r) (hc : c ≤ 1000000) (d : List UInt8) : Does n (c + 1) r (r.add d) := by
  have hg := (h.grow hc d).agree
  refine ⟨hg, (show Le r (r.grow d) from ⟨Nat.le_refl _, Nat.le_refl _, fun _ _ => rfl⟩).trans (le_agree (r.grow d)), fine_others hg fun k => ⟨(send_kind _ k).1, ?_⟩⟩
  rw [(send_kind _ k).2]
  exact Nat.le_succ _
theorem does_begin {n : Int} {c : Nat} {r : NodeP} (h : Good n c r) (hc : c ≤ 1000000) : Does n (c + 1) r r.begin := by
  have hn := h.nn
  have h1 := h.n1
  have hg : Good n c r.crown := ⟨h.n1, h.n5, h.id0, h.nn, h.lim, h.clk, h.base, h.term, h.len, ⟨by show (0 : Int) ≤ 3; omega, Int.le_refl 3⟩, h.ris, h.vote, h.com, fun hh => by have hz : (3 : Int) = 1 ∨ (3 : Int) = 2 := hh; omega,
    fun _ => by show ((List.replicate r.n.toNat 0).length : Int) = r.n; rw [List.length_replicate]; omega, fun _ => by show ((List.replicate r.n.toNat _).length : Int) = r.n; rw [List.length_replicate]; omega, fun x hx => by rw [List.eq_of_mem_replicate hx]; omega⟩
  exact (does_add hg hc []).of_le ⟨Nat.le_refl _, Nat.le_refl _, fun _ _ => rfl⟩
/-- A call for votes. -/
theorem does_call {n : Int} {c : Nat} {r : NodeP} (h : Good n c { r with role := 0 }) (hr : 0 ≤ r.role ∧ r.role < 3) {k : Int} {t : Nat} (hk : 1 ≤ k ∧ k ≤ 7) (ht : t ≤ r.Term + 1) : Does n c r (r.call k t) := by
  have hn : r.n = n := h.nn
  have h1 := h.n1
  have hg : Good n c (r.call k t).1 := h.idle rfl rfl rfl h.clk rfl h.term rfl (Nat.le_refl _) rfl h.vote rfl rfl ⟨hr.1, by have := hr.2; show r.role ≤ 3; omega⟩
    (fun _ => by show (((List.replicate r.n.toNat false).set _ true).length : Int) = r.n; rw [List.length_set, List.length_replicate]; omega) (fun hh => by have hz : r.role = 3 := hh; omega)
  exact ⟨hg, ⟨Nat.le_refl _, Nat.le_refl _, fun _ _ => rfl⟩, fun a ha => fine_others (r := { r with role := 0 }) h (F := fun _ => r.ask k t) (fun _ => ⟨hk, ht⟩) a ha⟩
theorem does_stand {n : Int} {c : Nat} {r : NodeP} (h : Good n c r) (hc : c ≤ 1000000) (ht : r.Term < 4611686018427387904) : Does n (c + 1) r r.stand := by
  have hn := h.nn
  have h1 := h.n1
  have hid := h.id0
  have hg : Good n c { r.rise with role := 0 } := h.idle rfl rfl rfl ⟨Int.le_refl 0, by show (0 : Int) ≤ 2000; omega⟩ rfl ht rfl (Nat.le_succ _) rfl ⟨by show -1 ≤ r.id; omega, by show r.id < n; omega⟩ rfl rfl ⟨Int.le_refl 0, by show (0 : Int) ≤ 3; omega⟩
    (fun hh => by have hz : (0 : Int) = 1 ∨ (0 : Int) = 2 := hh; omega) (fun hh => by have hz : (0 : Int) = 3 := hh; omega)
  have hcl := does_call hg ⟨by show (0 : Int) ≤ 2; omega, by show (2 : Int) < 3; omega⟩ (k := 3) (t := r.Term + 1) ⟨by omega, by omega⟩ (Nat.le_succ _)
  have hle : Le r r.rise := ⟨Nat.le_succ _, Nat.le_refl _, fun e => by have : r.Term + 1 = r.Term := e; omega⟩
  unfold NodeP.stand
  split
  · exact ((does_begin hcl.good hc).of_le hcl.le).of_le hle
  · exact (hcl.of_le hle).more (Nat.le_succ _)
theorem does_tick {n : Int} {c : Nat} {r : NodeP} (h : Good n c r) (hc : c ≤ 1000000) : Does n (c + 1) r r.tick := by
  have hlim := h.lim
  have hid := h.id0
  have hck := h.clk
  have h0 : ∀ z : Int, 0 ≤ z → z ≤ 2000 → Good n c { r with clock := z } := fun z h1 h2 => h.idle rfl rfl rfl ⟨h1, h2⟩ rfl h.term rfl (Nat.le_refl _) rfl h.vote rfl rfl h.role h.vts (fun hh => ⟨hh, rfl⟩)
  have hl0 : ∀ z : Int, Le r { r with clock := z } := fun z => ⟨Nat.le_refl _, Nat.le_refl _, fun _ _ => rfl⟩
  unfold NodeP.tick
  split
  · exact ⟨h.more (Nat.le_succ _), .refl r, fine_others h fun k => ⟨(send_kind r k).1, by rw [(send_kind r k).2]; exact Nat.le_succ _⟩⟩
  · split
    · exact .quiet ((h0 _ (by omega) (by omega)).more (Nat.le_succ _)) (hl0 _)
    · split
      · exact .quiet ((h0 _ (Int.le_refl 0) (by omega)).more (Nat.le_succ _)) (hl0 _)
      · rename_i ht
        split
        · exact (does_stand (h0 0 (Int.le_refl 0) (by omega)) hc (by have := h.term; show r.Term < _; omega)).of_le (hl0 0)
        · have hg : Good n c { r with clock := 0, role := 0, lead := -1 } := h.idle rfl rfl rfl ⟨Int.le_refl 0, by dsimp only; omega⟩ rfl h.term rfl (Nat.le_refl _) rfl h.vote rfl rfl ⟨Int.le_refl 0, by dsimp only; omega⟩ (fun hh => by dsimp only at hh; omega) (fun hh => by dsimp only at hh; omega)
          have hl1 : Le r { r with clock := 0, role := 1, lead := -1 } := ⟨Nat.le_refl _, Nat.le_refl _, fun _ _ => rfl⟩
          exact ((does_call (r := { r with clock := 0, role := 1, lead := -1 }) hg ⟨by dsimp only; omega, by dsimp only; omega⟩ (k := 1) (t := r.Term + 1) ⟨by omega, by omega⟩ (Nat.le_refl _)).of_le hl1).more (Nat.le_succ _)
/-- What the law's messages are, if they are proper. -/
structure Come (n : Int) (m : MsgP) : Prop where
  f1 : 1 ≤ m.From
  fn : m.From < n
  term : m.Term ≤ 4611686018427387904
  index : m.Index ≤ 4611686018427387904
  few : m.Entries.length ≤ 30
theorem fine_reply {n : Int} {t : Nat} {r : NodeP} {m a : MsgP} (hi : r.id = 0) (hm : Come n m) (hk : 1 ≤ a.Kind ∧ a.Kind ≤ 7) (ht : a.Kind ≠ 2 → a.Term ≤ t + 1) : ∀ b ∈ r.reply m a, Fine n t b := by
  intro b hb
  have hb2 := List.mem_singleton.1 hb
  subst hb2
  exact ⟨hi, hm.f1, hm.fn, hk, ht⟩
theorem Good.votes {n : Int} {c : Nat} {r : NodeP} (h : Good n c r) (k : Nat) : Good n c { r with votes := r.votes.set k true } :=
  h.idle rfl rfl rfl h.clk rfl h.term rfl (Nat.le_refl _) rfl h.vote rfl rfl h.role (fun hh => by show ((r.votes.set k true).length : Int) = r.n; rw [List.length_set]; exact h.vts hh) (fun hh => ⟨hh, rfl⟩)
theorem le_votes (r : NodeP) (v : List Bool) : Le r { r with votes := v } := ⟨Nat.le_refl _, Nat.le_refl _, fun _ _ => rfl⟩
theorem does_preVoted {n : Int} {c : Nat} {r : NodeP} (h : Good n c r) (hc : c ≤ 1000000) {m : MsgP} (hm : Come n m) : Does n (c + 1) r (r.preVoted m) := by
  have hmt := hm.term
  unfold NodeP.preVoted
  split
  · split
    · exact .quiet ((h.follow hmt _).more (Nat.le_succ _)) (le_follow r _ _)
    · exact .quiet (h.more (Nat.le_succ _)) (.refl r)
  · split
    · exact .quiet (h.more (Nat.le_succ _)) (.refl r)
    · rename_i hq
      simp only [not_or, Decidable.not_not] at hq
      split
      · exact (does_stand (h.votes _) hc (by show r.Term < _; omega)).of_le (le_votes r _)
      · exact .quiet ((h.votes _).more (Nat.le_succ _)) (le_votes r _)
theorem does_voted {n : Int} {c : Nat} {r : NodeP} (h : Good n c r) (hc : c ≤ 1000000) {m : MsgP} (hm : Come n m) : Does n (c + 1) r (r.voted m) := by
  have hmt := hm.term
  unfold NodeP.voted
  split
  · exact .quiet ((h.follow hmt _).more (Nat.le_succ _)) (le_follow r _ _)
  · split
    · exact .quiet (h.more (Nat.le_succ _)) (.refl r)
    · split
      · exact (does_begin (h.votes _) hc).of_le (le_votes r _)
      · exact .quiet ((h.votes _).more (Nat.le_succ _)) (le_votes r _)
theorem does_vote {n : Int} {c : Nat} {r : NodeP} (h : Good n c r) {m : MsgP} (hm : Come n m) : Does n c r (r.vote m) := by
  have hmt := hm.term
  have hf1 := hm.f1
  have hg : Good n c (r.newer m) := by
    unfold NodeP.newer
    split
    · exact h.follow hmt _
    · exact h
  have hl : Le r (r.newer m) := by
    unfold NodeP.newer
    split
    · exact le_follow r _ _
    · exact .refl r
  unfold NodeP.vote
  by_cases hq : (r.newer m).grants m = true
  · have hq2 := hq
    simp only [NodeP.grants, Bool.and_eq_true, Bool.or_eq_true, decide_eq_true_eq] at hq2
    have hg2 : Good n c { r.newer m with Vote := m.From, clock := 0 } := hg.idle rfl rfl rfl ⟨Int.le_refl 0, by dsimp only; omega⟩ rfl hg.term rfl (Nat.le_refl _) rfl ⟨by dsimp only; omega, hm.fn⟩ rfl rfl hg.role hg.vts (fun hh => ⟨hh, rfl⟩)
    have hl2 : Le (r.newer m) { r.newer m with Vote := m.From, clock := 0 } := ⟨Nat.le_refl _, Nat.le_refl _, fun _ hv => by
      rcases hq2.1.2 with hz | hz
      · exact absurd hz hv
      · exact hz.symm⟩
    rw [if_pos hq]
    exact ⟨hg2, hl.trans hl2, fine_reply hg.id0 hm ⟨by show (1 : Int) ≤ 4; omega, by show (4 : Int) ≤ 7; omega⟩ fun _ => Nat.le_succ _⟩
  · rw [if_neg hq]
    exact ⟨hg, hl, fine_reply hg.id0 hm ⟨by show (1 : Int) ≤ 4; omega, by show (4 : Int) ≤ 7; omega⟩ fun _ => Nat.le_succ _⟩
theorem does_snap {n : Int} {c : Nat} {r : NodeP} (h : Good n c r) {m : MsgP} (hm : Come n m) (ht : m.Term ≤ r.Term) : Does n c r (r.snap m) := by
  have hix := hm.index
  have hk : ∀ (i : Nat) (b : Bool), 1 ≤ (msg 6 r.Term i b).Kind ∧ (msg 6 r.Term i b).Kind ≤ 7 := fun i b => ⟨by show (1 : Int) ≤ 6; omega, by show (6 : Int) ≤ 7; omega⟩
  unfold NodeP.snap
  split
  · exact ⟨h, .refl r, fine_reply h.id0 hm (hk _ _) fun _ => Nat.le_succ _⟩
  · rename_i hi
    split
    · exact .quiet h (.refl r)
    · rename_i hlt
      by_cases hq : r.termAt m.Index = some m.LogTerm
      · rw [if_pos hq]
        exact ⟨{ h with com := termAt_in hq }, ⟨Nat.le_refl _, by show r.commit ≤ m.Index; omega, fun _ _ => rfl⟩, fine_reply h.id0 hm (hk _ _) fun _ => Nat.le_succ _⟩
      · rw [if_neg hq]
        refine ⟨⟨h.n1, h.n5, h.id0, h.nn, h.lim, h.clk, hix, h.term, Nat.zero_le _, h.role, ?_, h.vote, ⟨Nat.le_refl _, Nat.le_refl _⟩, h.vts, h.mat, h.nxt, h.mbd⟩, ⟨Nat.le_refl _, by show r.commit ≤ m.Index; omega, fun _ _ => rfl⟩, fine_reply h.id0 hm (hk _ _) fun _ => Nat.le_succ _⟩
        show decide (m.LogTerm ≤ r.Term) = true
        simp only [decide_eq_true_eq]
        omega
theorem same_le (r : NodeP) (at_ : Nat) (l : List EntryP) : r.same at_ l ≤ l.length := by
  induction l generalizing at_ with
  | nil => exact Nat.le_refl _
  | cons e l ih =>
    unfold NodeP.same
    split
    · have := ih (at_ + 1)
      simp only [List.length_cons]
      omega
    · exact Nat.zero_le _
theorem same_last (r : NodeP) {at_ : Nat} (l : List EntryP) (h : at_ ≤ r.last) : at_ + r.same at_ l ≤ r.last := by
  induction l generalizing at_ with
  | nil => exact h
  | cons e l ih =>
    unfold NodeP.same
    split
    · rename_i hq
      have := ih (termAt_in hq).2
      omega
    · exact h
theorem lay_good {n : Int} {c at_ : Nat} {r s : NodeP} {l : List EntryP} (h : Good n c r) (hat : r.Base ≤ at_) (hal : at_ ≤ r.last) (hll : l.length ≤ 30) (hs : r.lay at_ l = some s) :
    Good n (c + 30) s ∧ Le r s ∧ s.commit = r.commit ∧ s.Base = r.Base ∧ at_ + l.length ≤ s.last := by
  have hk := same_last r l hal
  have hkl := same_le r at_ l
  unfold NodeP.lay at hs
  split at hs
  · rename_i he
    cases hs
    exact ⟨h.more (by omega), .refl r, rfl, rfl, by omega⟩
  · split at hs
    · cases hs
    · split at hs
      · cases hs
      · rename_i h1 h2 h3
        cases hs
        have hj : at_ + r.same at_ l - r.Base ≤ r.Entries.length := by unfold NodeP.last at hk; omega
        have hr : risingP (r.Entries.take (at_ + r.same at_ l - r.Base) ++ l.drop (r.same at_ l)) r.BaseTerm r.Term = true := by
          refine risingP_splice h.ris hj ?_
          have h4 : risingP (l.drop (r.same at_ l)) ((r.termAt (at_ + r.same at_ l)).getD 0) r.Term = true := by simpa using h3
          have h5 : (r.termAt (at_ + r.same at_ l)).getD 0 = if at_ + r.same at_ l - r.Base = 0 then r.BaseTerm else ((r.Entries[at_ + r.same at_ l - r.Base - 1]?.map (·.Term)).getD 0) := by
            unfold NodeP.termAt
            rw [if_neg (by omega)]
            by_cases hz : at_ + r.same at_ l = r.Base
            · rw [if_pos hz, if_pos (by omega)]; rfl
            · rw [if_neg hz, if_neg (by omega)]
          rw [← h5]
          exact h4
        have hlen : (r.Entries.take (at_ + r.same at_ l - r.Base) ++ l.drop (r.same at_ l)).length = at_ + l.length - r.Base := by
          rw [List.length_append, List.length_take, List.length_drop, Nat.min_eq_left hj]; omega
        have hle : (r.Entries.take (at_ + r.same at_ l - r.Base) ++ l.drop (r.same at_ l)).length ≤ c + 30 := by
          rw [List.length_append, List.length_take, List.length_drop]; have := h.len; omega
        refine ⟨⟨h.n1, h.n5, h.id0, h.nn, h.lim, h.clk, h.base, h.term, hle, h.role, hr, h.vote, ⟨h.com.1, ?_⟩, h.vts, h.mat, h.nxt, h.mbd⟩, ⟨Nat.le_refl _, Nat.le_refl _, fun _ _ => rfl⟩, rfl, rfl, ?_⟩
        · show r.commit ≤ r.Base + _
          rw [hlen]
          omega
        · show at_ + l.length ≤ r.Base + _
          rw [hlen]
          omega
theorem does_append {n : Int} {c : Nat} {r : NodeP} (h : Good n c r) {m : MsgP} (hm : Come n m) : Does n (c + 30) r (r.append m) := by
  have hk : ∀ (i : Nat) (b : Bool), 1 ≤ (msg 6 r.Term i b).Kind ∧ (msg 6 r.Term i b).Kind ≤ 7 := fun i b => ⟨by show (1 : Int) ≤ 6; omega, by show (6 : Int) ≤ 7; omega⟩
  have hbl := Nat.le_trans h.com.1 h.com.2
  unfold NodeP.append
  by_cases hq : m.Index < r.Base ∨ r.termAt m.Index = some m.LogTerm
  · rw [if_pos hq]
    have hal : max m.Index r.Base ≤ r.last := by
      rcases hq with hq | hq
      · omega
      · have := termAt_in hq; omega
    cases hs : r.lay (max m.Index r.Base) (m.Entries.drop (r.Base - m.Index)) with
    | none => exact .quiet (h.more (by omega)) (.refl r)
    | some s =>
      obtain ⟨hg, hl, hc1, hb1, hla⟩ := lay_good h (by omega) hal (by rw [List.length_drop]; have := hm.few; omega) hs
      rw [List.length_drop] at hla
      have hc2 := hg.com
      refine ⟨{ hg with com := ⟨?_, ?_⟩ }, ⟨hl.term, Nat.le_max_left _ _, hl.vote⟩, fine_reply h.id0 hm (hk _ _) fun _ => by have := hl.term; show r.Term ≤ s.Term + 1; omega⟩
      · show s.Base ≤ max r.commit _
        omega
      · show max r.commit (min m.Commit (m.Index + m.Entries.length)) ≤ s.last
        omega
  · rw [if_neg hq]
    exact ⟨h.more (by omega), .refl r, fine_reply h.id0 hm (hk _ _) fun _ => Nat.le_succ _⟩
theorem does_led {n : Int} {c : Nat} {r : NodeP} (h : Good n c r) {m : MsgP} (hm : Come n m) : Does n (c + 30) r (r.led m) := by
  have hmt := hm.term
  unfold NodeP.led
  by_cases h1 : m.Term < r.Term
  · rw [if_pos h1]
    exact ⟨h.more (by omega), .refl r, fine_reply h.id0 hm ⟨by show (1 : Int) ≤ 6; omega, by show (6 : Int) ≤ 7; omega⟩ fun _ => Nat.le_succ _⟩
  · rw [if_neg h1]
    by_cases h2 : m.Term = r.Term ∧ r.role = 3
    · rw [if_pos h2]
      exact .quiet (h.more (by omega)) (.refl r)
    · rw [if_neg h2]
      have hf := h.follow hmt m.From
      have hg : Good n c { r.follow m.Term m.From with clock := 0 } := hf.idle rfl rfl rfl ⟨Int.le_refl 0, by dsimp only; omega⟩ rfl hf.term rfl (Nat.le_refl _) rfl hf.vote rfl rfl hf.role hf.vts (fun hh => ⟨hh, rfl⟩)
      have hl : Le r { r.follow m.Term m.From with clock := 0 } := (le_follow r m.Term m.From).trans ⟨Nat.le_refl _, Nat.le_refl _, fun _ _ => rfl⟩
      by_cases h3 : m.Kind = 7
      · rw [if_pos h3]
        exact ((does_snap hg hm (by show m.Term ≤ (r.follow m.Term m.From).Term; rw [follow_term _ (by omega)]; exact Nat.le_refl _)).of_le hl).more (by omega)
      · rw [if_neg h3]
        exact (does_append hg hm).of_le hl
theorem does_appended {n : Int} {c : Nat} {r : NodeP} (h : Good n c r) {m : MsgP} (hm : Come n m) : Does n c r (r.appended m) := by
  have hmt := hm.term
  have hix := hm.index
  unfold NodeP.appended
  by_cases h1 : r.Term < m.Term
  · rw [if_pos h1]
    exact .quiet (h.follow hmt _) (le_follow r _ _)
  · rw [if_neg h1]
    by_cases h2 : ¬ r.role = 3 ∨ ¬ m.Term = r.Term
    · rw [if_pos h2]
      exact .quiet h (.refl r)
    · rw [if_neg h2]
      by_cases h3 : m.OK = true
      · rw [if_pos h3]
        by_cases h4 : m.Index ≤ r.last ∧ r.match_.getD m.From.toNat 0 < m.Index
        · rw [if_pos h4]
          have hg : Good n c { r with match_ := r.match_.set m.From.toNat m.Index, next := r.next.set m.From.toNat (m.Index + 1) } := ⟨h.n1, h.n5, h.id0, h.nn, h.lim, h.clk, h.base, h.term, h.len, h.role, h.ris, h.vote, h.com, h.vts,
            fun hh => by show ((r.match_.set _ _).length : Int) = r.n; rw [List.length_set]; exact h.mat hh, fun hh => by show ((r.next.set _ _).length : Int) = r.n; rw [List.length_set]; exact h.nxt hh, fun x hx => by
              rcases List.mem_or_eq_of_mem_set hx with hx | rfl
              · exact h.mbd x hx
              · omega⟩
          exact .quiet hg.agree ((show Le r { r with match_ := r.match_.set m.From.toNat m.Index, next := r.next.set m.From.toNat (m.Index + 1) } from ⟨Nat.le_refl _, Nat.le_refl _, fun _ _ => rfl⟩).trans (le_agree _))
        · rw [if_neg h4]
          exact .quiet h (.refl r)
      · rw [if_neg h3]
        have hg : Good n c { r with next := r.next.set m.From.toNat (max (r.match_.getD m.From.toNat 0) (min m.Index r.last) + 1) } := ⟨h.n1, h.n5, h.id0, h.nn, h.lim, h.clk, h.base, h.term, h.len, h.role, h.ris, h.vote, h.com, h.vts, h.mat,
          fun hh => by show ((r.next.set _ _).length : Int) = r.n; rw [List.length_set]; exact h.nxt hh, h.mbd⟩
        exact ⟨hg, ⟨Nat.le_refl _, Nat.le_refl _, fun _ _ => rfl⟩, fine_reply h.id0 hm (send_kind _ _).1 fun _ => by rw [(send_kind _ _).2]; exact Nat.le_succ _⟩
theorem come_of {n : Int} {c : Nat} {r : NodeP} (h : Good n c r) {m : MsgP} (hp : r.proper m = true) (hf : m.Entries.length ≤ 30) : Come n m := by
  obtain ⟨h1, h2, h3, h4, h5, h6, h7⟩ := proper_spec hp
  rw [h.id0] at h3
  rw [h.nn] at h1
  exact ⟨by omega, h1.2, h7, h6, hf⟩
theorem does_step {n : Int} {c : Nat} {r : NodeP} (h : Good n c r) (hc : c ≤ 1000000) {m : MsgP} (hf : m.Entries.length ≤ 30) : Does n (c + 30) r (r.step m) := by
  unfold NodeP.step
  by_cases hp : r.proper m = true
  · have hm := come_of h hp hf
    rw [if_neg (by rw [hp]; decide)]
    split
    · refine ⟨h.more (by omega), .refl r, ?_⟩
      split
      · exact fine_reply h.id0 hm ⟨by show (1 : Int) ≤ 2; omega, by show (2 : Int) ≤ 7; omega⟩ fun hk => absurd rfl hk
      · exact fine_reply h.id0 hm ⟨by show (1 : Int) ≤ 2; omega, by show (2 : Int) ≤ 7; omega⟩ fun hk => absurd rfl hk
    · split
      · exact (does_preVoted h hc hm).more (by omega)
      · split
        · exact (does_vote h hm).more (by omega)
        · split
          · exact (does_voted h hc hm).more (by omega)
          · split
            · exact does_led h hm
            · exact (does_appended h hm).more (by omega)
  · rw [if_pos (by simp at hp; simp [hp])]
    exact .quiet (h.more (by omega)) (.refl r)
/-- What a snapshot that is wanted leaves behind. -/
structure Left (m : MsgP) (s : NodeP) : Prop where
  ent : s.Entries = []
  base : s.Base = m.Index
  bt : s.BaseTerm = m.LogTerm
  com : s.commit = m.Index
  role : s.role = 0
  clk : s.clock = 0
theorem termAt_follow (r : NodeP) (t : Nat) (l : Int) (i : Nat) : ({ r.follow t l with clock := 0 } : NodeP).termAt i = r.termAt i := by
  unfold NodeP.follow
  split <;> rfl
theorem follow_commit (r : NodeP) (t : Nat) (l : Int) : (r.follow t l).commit = r.commit := by
  unfold NodeP.follow
  split <;> rfl
theorem follow_role (r : NodeP) (t : Nat) (l : Int) : (r.follow t l).role = 0 := by
  unfold NodeP.follow
  split <;> rfl
theorem wants_step {r : NodeP} {m : MsgP} (h : r.wants m = true) : Left m (r.step m).1 := by
  simp only [NodeP.wants, Bool.and_eq_true, Bool.not_eq_true', Bool.or_eq_false_iff, Bool.not_eq_false', Bool.and_eq_false_iff, decide_eq_true_eq, decide_eq_false_iff_not] at h
  obtain ⟨⟨⟨⟨⟨⟨hp, hk⟩, ht⟩, hr⟩, hi⟩, hl⟩, ha⟩ := h
  have hs : r.step m = r.led m := by
    unfold NodeP.step
    rw [if_neg (by rw [hp]; decide), if_neg (by omega), if_neg (by omega), if_neg (by omega), if_neg (by omega), if_pos (Or.inr hk)]
  rw [hs]
  unfold NodeP.led
  rw [if_neg ht, if_neg (by intro hh; rcases hr with hr | hr; exact hr hh.1; exact hr hh.2), if_pos hk]
  unfold NodeP.snap
  rw [if_neg (by show ¬ m.Index ≤ (r.follow m.Term m.From).commit; rw [follow_commit]; exact hi), if_neg hl, if_neg (by rw [termAt_follow]; exact ha)]
  exact ⟨rfl, rfl, rfl, rfl, follow_role r _ _, rfl⟩
theorem left_tick {n : Int} {c : Nat} {r : NodeP} {m : MsgP} (h : Good n c r) (hl : Left m r) : r.tick.1.Entries = [] ∧ r.tick.1.Base = m.Index ∧ r.tick.1.BaseTerm = m.LogTerm ∧ r.tick.1.commit = m.Index := by
  have h1 := h.lim
  have h2 := h.id0
  have h3 := hl.clk
  unfold NodeP.tick
  rw [if_neg (by rw [hl.role]; omega), if_pos (by omega)]
  exact ⟨hl.ent, hl.base, hl.bt, hl.com⟩
theorem good_new {n : Int} {s : StateRP} (h : newErr 0 n 3 s = 0) (hs : s.Entries.length ≤ 30) : Good n 30 (newNode 0 n 3 s) := by
  obtain ⟨h1, h2, h3, h4, h5, h6⟩ := new_ok h
  exact ⟨h1.1, h1.2.1, rfl, rfl, rfl, ⟨Int.le_refl 0, by show (0 : Int) ≤ 2000; omega⟩, h5, h6, hs, ⟨Int.le_refl 0, by show (0 : Int) ≤ 3; omega⟩, h4, ⟨h2, h3⟩, ⟨Nat.le_refl _, by show s.Base ≤ s.Base + _; omega⟩, fun hh => by have hz : (0 : Int) = 1 ∨ (0 : Int) = 2 := hh; omega, fun hh => by have hz : (0 : Int) = 3 := hh; omega, fun hh => by have hz : (0 : Int) = 3 := hh; omega, fun x hx => by cases hx⟩
theorem good_form {n : Int} {c : Nat} {r : NodeP} (h : Good n c r) : formB (refOf r) n = true := by
  have h1 : (refOf r).Log.map (fun e => (⟨e.Term, e.Data⟩ : EntryP)) = r.Entries := by
    show (r.Entries.map _).map _ = _
    rw [List.map_map]
    exact List.map_id'' (fun _ => rfl) _
  have h2 : (refOf r).Log.length = r.Entries.length := by show (r.Entries.map _).length = _; rw [List.length_map]
  simp only [formB, Bool.and_eq_true, decide_eq_true_eq]
  exact ⟨⟨⟨⟨by rw [h1]; exact h.ris, h.vote.1⟩, h.vote.2⟩, h.com.1⟩, by rw [h2]; exact h.com.2⟩
theorem others_len {r : NodeP} (h : r.n ≤ 5) (F : Int → MsgP) : (r.others F).length ≤ 5 := by
  unfold NodeP.others
  rw [List.length_map]
  exact Nat.le_trans (List.length_filter_le _ _) (by rw [List.length_range]; omega)
theorem add_len {r : NodeP} (h : r.n ≤ 5) (d : List UInt8) : (r.add d).2.length ≤ 5 := others_len (by rw [agree_n]; exact h) _
theorem stand_len {r : NodeP} (h : r.n ≤ 5) : r.stand.2.length ≤ 5 := by
  unfold NodeP.stand
  split
  · exact add_len (r := (r.rise.call 3 (r.Term + 1)).1.crown) h _
  · exact others_len (r := r.rise) h (fun _ => r.rise.ask 3 (r.Term + 1))
theorem tick_len {r : NodeP} (h : r.n ≤ 5) : r.tick.2.length ≤ 5 := by
  unfold NodeP.tick
  split
  · exact others_len h _
  · split
    · exact Nat.zero_le _
    · split
      · exact Nat.zero_le _
      · split
        · exact stand_len (r := { r with clock := 0 }) h
        · exact others_len (r := { r with clock := 0, role := 1, lead := -1 }) h (fun _ => NodeP.ask { r with clock := 0, role := 1, lead := -1 } 1 (r.Term + 1))
theorem step_len {r : NodeP} (h : r.n ≤ 5) (m : MsgP) : (r.step m).2.length ≤ 5 := by
  have h1 : ∀ (s : NodeP) (a : MsgP), (s.reply m a).length ≤ 5 := fun s a => by show 1 ≤ 5; omega
  have h0 : ([] : List MsgP).length ≤ 5 := Nat.zero_le _
  have hsnap : ∀ s : NodeP, (s.snap m).2.length ≤ 5 := fun s => by
    unfold NodeP.snap
    split
    · exact h1 _ _
    · split
      · exact h0
      · exact h1 _ _
  have happ : ∀ s : NodeP, (s.append m).2.length ≤ 5 := fun s => by
    unfold NodeP.append
    split
    · split
      · exact h0
      · exact h1 _ _
    · exact h1 _ _
  unfold NodeP.step
  split
  · exact h0
  · split
    · dsimp only
      split
      · exact h1 _ _
      · exact h1 _ _
    · split
      · unfold NodeP.preVoted
        split
        · exact h0
        · split
          · exact h0
          · split
            · exact stand_len (r := { r with votes := r.votes.set m.From.toNat true }) h
            · exact h0
      · split
        · exact h1 _ _
        · split
          · unfold NodeP.voted
            split
            · exact h0
            · split
              · exact h0
              · split
                · exact add_len (r := NodeP.crown { r with votes := r.votes.set m.From.toNat true }) h _
                · exact h0
          · split
            · unfold NodeP.led
              split
              · exact h1 _ _
              · split
                · exact h0
                · split
                  · exact hsnap _
                  · exact happ _
            · unfold NodeP.appended
              split
              · exact h0
              · split
                · exact h0
                · split
                  · split
                    · exact h0
                    · exact h0
                  · exact h1 _ _
theorem termAt_end {n : Int} {c : Nat} {r : NodeP} (h : Good n c r) : (r.termAt r.last).isSome = true ∧ (r.termAt r.last).getD 0 ≤ r.Term := by
  unfold NodeP.termAt NodeP.last
  rw [if_neg (by omega)]
  by_cases hz : r.Base + r.Entries.length = r.Base
  · rw [if_pos hz]
    exact ⟨rfl, risingP_le h.ris⟩
  · rw [if_neg hz]
    have hk : r.Base + r.Entries.length - r.Base - 1 < r.Entries.length := by omega
    rw [List.getElem?_eq_getElem hk]
    exact ⟨rfl, risingP_mem h.ris _ (List.getElem_mem hk)⟩
theorem termAt_beyond (r : NodeP) : r.termAt (r.last + 1) = none := if_pos (.inr (Nat.lt_succ_self _))
theorem from_beyond (r : NodeP) : r.from_ (r.last + 1) = [] := if_pos (Nat.lt_succ_self _)
end NodeP
/-- The terms rise. -/
def risingT : List Nat → Nat → Nat → Bool
  | [], lo, hi => decide (lo ≤ hi)
  | t :: l, lo, hi => if t < lo then false else risingT l t hi
theorem risingP_T (l : List EntryP) (lo hi : Nat) : risingP l lo hi = risingT (l.map (·.Term)) lo hi := by
  induction l generalizing lo with
  | nil => rfl
  | cons e l ih => simp only [risingP, risingT, List.map_cons, ih]
theorem laid_terms (f : Nat → List UInt8) (ts : List Nat) : (laid f ts).map (·.Term) = ts := by
  exact List.ext_getElem (by simp [laid]) fun i h1 h2 => by simp [laid]
theorem risingT_step {ri : Bool} {t lo hi : Nat} {l : List Nat} : (ri && risingT (t :: l) lo hi) = ((ri && decide (lo ≤ t)) && risingT l t hi) := by
  rw [show risingT (t :: l) lo hi = if t < lo then false else risingT l t hi from rfl]
  by_cases h : t < lo
  · rw [if_pos h, show decide (lo ≤ t) = false by simp; omega, Bool.and_false, Bool.false_and]
  · rw [if_neg h, show decide (lo ≤ t) = true by simp; omega, Bool.and_true]
def cutF (f : FormP) : FormP := { f with Terms := f.Terms.take 30 }

end Go.Proofs.Ytlhibbjnhdcffaa
