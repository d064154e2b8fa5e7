/- Proved here: the part D2 of the proof that the law of this seat returns true for every input; no condition. -/
import Derived.Test.YtlhibbjnhdcffaaD
set_option maxRecDepth 20000
set_option linter.unusedVariables false
set_option linter.unusedSimpArgs false
namespace Go.Proofs.Ytlhibbjnhdcffaa
open Go Go.Gl

namespace NodeP
def sorted (l : List Nat) : List Nat := l.mergeSort fun a b => decide (a ≤ b)
theorem sorted_of {l ys : List Nat} (hp : ys.Perm l) (hs : ys.Pairwise (· ≤ ·)) : ys = sorted l := by
  refine List.Perm.eq_of_pairwise (le := fun a b => a ≤ b) (fun a b _ _ h1 h2 => Nat.le_antisymm h1 h2) hs ?_ (hp.trans (List.mergeSort_perm l _).symm)
  have := List.pairwise_mergeSort (le := fun a b : Nat => decide (a ≤ b)) (fun a b c h1 h2 => by simp at *; omega) (fun a b => by simp; omega) l
  exact this.imp fun h => by simpa using h
theorem sorted_length (l : List Nat) : (sorted l).length = l.length := (List.mergeSort_perm l _).length_eq
def agree (r : NodeP) : NodeP :=
  if r.termAt ((sorted r.match_).getD ((r.n - 1) / 2).toNat 0) = some r.Term ∧ r.commit < (sorted r.match_).getD ((r.n - 1) / 2).toNat 0 then { r with commit := (sorted r.match_).getD ((r.n - 1) / 2).toNat 0 } else r
def grow (r : NodeP) (data : List UInt8) : NodeP := { r with Entries := r.Entries ++ [⟨r.Term, data⟩], match_ := r.match_.set r.id.toNat (r.last + 1) }
def add (r : NodeP) (data : List UInt8) : NodeP × List MsgP := ((r.grow data).agree, (r.grow data).agree.others (r.grow data).agree.send)
def crown (r : NodeP) : NodeP := { r with role := 3, lead := r.id, match_ := List.replicate r.n.toNat 0, next := List.replicate r.n.toNat (r.last + 1) }
def begin (r : NodeP) : NodeP × List MsgP := r.crown.add []
def rise (r : NodeP) : NodeP := { r with Term := r.Term + 1, Vote := r.id, role := 2, lead := -1, clock := 0 }
def stand (r : NodeP) : NodeP × List MsgP :=
  if (r.rise.call 3 (r.Term + 1)).1.most (r.rise.call 3 (r.Term + 1)).1.votes then (r.rise.call 3 (r.Term + 1)).1.begin else r.rise.call 3 (r.Term + 1)
def tick (r : NodeP) : NodeP × List MsgP :=
  if r.role = 3 then (r, r.others r.send)
  else if r.clock + 1 < r.limit + r.id then ({ r with clock := r.clock + 1 }, [])
  else if r.Term = 4611686018427387904 then ({ r with clock := 0 }, [])
  else if r.n = 1 then { r with clock := 0 }.stand
  else { r with clock := 0, role := 1, lead := -1 }.call 1 (r.Term + 1)
def preVoted (r : NodeP) (m : MsgP) : NodeP × List MsgP :=
  if !m.OK then (if r.Term < m.Term then r.follow m.Term (-1) else r, [])
  else if ¬ r.role = 1 ∨ ¬ m.Term = r.Term + 1 then (r, [])
  else if { r with votes := r.votes.set m.From.toNat true }.most (r.votes.set m.From.toNat true) then { r with votes := r.votes.set m.From.toNat true }.stand
  else ({ r with votes := r.votes.set m.From.toNat true }, [])
def reply (r : NodeP) (m a : MsgP) : List MsgP := [{ a with From := r.id, To := m.From }]
def msg (kind : Int) (term index : Nat) (ok : Bool) : MsgP := ⟨kind, 0, 0, term, index, 0, 0, [], ok, []⟩
def newer (r : NodeP) (m : MsgP) : NodeP := if r.Term < m.Term then r.follow m.Term (-1) else r
def grants (r : NodeP) (m : MsgP) : Bool := decide (m.Term = r.Term) && (decide (r.Vote = -1) || decide (r.Vote = m.From)) && r.upToDate m
def vote (r : NodeP) (m : MsgP) : NodeP × List MsgP :=
  (if (r.newer m).grants m then { r.newer m with Vote := m.From, clock := 0 } else r.newer m, (r.newer m).reply m (msg 4 (r.newer m).Term 0 ((r.newer m).grants m)))
def voted (r : NodeP) (m : MsgP) : NodeP × List MsgP :=
  if r.Term < m.Term then (r.follow m.Term (-1), [])
  else if m.OK = false ∨ ¬ r.role = 2 ∨ ¬ m.Term = r.Term then (r, [])
  else if { r with votes := r.votes.set m.From.toNat true }.most (r.votes.set m.From.toNat true) then { r with votes := r.votes.set m.From.toNat true }.begin
  else ({ r with votes := r.votes.set m.From.toNat true }, [])
def snap (r : NodeP) (m : MsgP) : NodeP × List MsgP :=
  if m.Index ≤ r.commit then (r, r.reply m (msg 6 r.Term r.commit true))
  else if m.Term < m.LogTerm then (r, [])
  else (if r.termAt m.Index = some m.LogTerm then { r with commit := m.Index } else { r with Base := m.Index, BaseTerm := m.LogTerm, Entries := [], commit := m.Index }, r.reply m (msg 6 r.Term m.Index true))
/-- The first of some entries, from an index on, that the log has not in its term: how many stand ahead of it. -/
def same (r : NodeP) : Nat → List EntryP → Nat
  | _, [] => 0
  | at_, e :: l => if r.termAt (at_ + 1) = some e.Term then r.same (at_ + 1) l + 1 else 0
/-- What a leader's entries make of a log; none: nothing is done. -/
def lay (r : NodeP) (at_ : Nat) (l : List EntryP) : Option NodeP :=
  if r.same at_ l = l.length then some r
  else if at_ + r.same at_ l + 1 ≤ r.commit then none
  else if !risingP (l.drop (r.same at_ l)) ((r.termAt (at_ + r.same at_ l)).getD 0) r.Term then none
  else some { r with Entries := r.Entries.take (at_ + r.same at_ l - r.Base) ++ l.drop (r.same at_ l) }
def append (r : NodeP) (m : MsgP) : NodeP × List MsgP :=
  if m.Index < r.Base ∨ r.termAt m.Index = some m.LogTerm then
    match r.lay (max m.Index r.Base) (m.Entries.drop (r.Base - m.Index)) with
    | none => (r, [])
    | some r1 => ({ r1 with commit := max r.commit (min m.Commit (m.Index + m.Entries.length)) }, r.reply m (msg 6 r.Term (m.Index + m.Entries.length) true))
  else (r, r.reply m (msg 6 r.Term r.commit false))
def led (r : NodeP) (m : MsgP) : NodeP × List MsgP :=
  if m.Term < r.Term then (r, r.reply m (msg 6 r.Term 0 false))
  else if m.Term = r.Term ∧ r.role = 3 then (r, [])
  else if m.Kind = 7 then { r.follow m.Term m.From with clock := 0 }.snap m else { r.follow m.Term m.From with clock := 0 }.append m
def appended (r : NodeP) (m : MsgP) : NodeP × List MsgP :=
  if r.Term < m.Term then (r.follow m.Term (-1), [])
  else if ¬ r.role = 3 ∨ ¬ m.Term = r.Term then (r, [])
  else if m.OK then
    if m.Index ≤ r.last ∧ r.match_.getD m.From.toNat 0 < m.Index then ({ r with match_ := r.match_.set m.From.toNat m.Index, next := r.next.set m.From.toNat (m.Index + 1) }.agree, []) else (r, [])
  else ({ r with next := r.next.set m.From.toNat (max (r.match_.getD m.From.toNat 0) (min m.Index r.last) + 1) },
    r.reply m ({ r with next := r.next.set m.From.toNat (max (r.match_.getD m.From.toNat 0) (min m.Index r.last) + 1) }.send m.From))
def step (r : NodeP) (m : MsgP) : NodeP × List MsgP :=
  if !r.proper m then (r, [])
  else if m.Kind = 1 then (r, if decide (r.Term < m.Term) && r.upToDate m && (decide (r.lead = -1) || decide (r.limit ≤ r.clock)) then r.reply m (msg 2 m.Term 0 true) else r.reply m (msg 2 r.Term 0 false))
  else if m.Kind = 2 then r.preVoted m
  else if m.Kind = 3 then r.vote m
  else if m.Kind = 4 then r.voted m
  else if m.Kind = 5 ∨ m.Kind = 7 then r.led m
  else r.appended m
def wants (r : NodeP) (m : MsgP) : Bool :=
  !(!r.proper m || !decide (m.Kind = 7) || decide (m.Term < r.Term) || (decide (m.Term = r.Term) && decide (r.role = 3)) || decide (m.Index ≤ r.commit) || decide (m.Term < m.LogTerm)) && !decide (r.termAt m.Index = some m.LogTerm)
theorem Few.agree {r : NodeP} (h : r.Few) : r.agree.Few := by
  unfold NodeP.agree
  split
  · rename_i hc
    refine ⟨h.base, h.len, h.term, h.id0, h.idn, h.n5, h.lim0, h.lim1, h.clk0, h.clk1, h.bt, h.trm, ?_⟩
    have h1 := hc.1
    unfold termAt at h1
    split at h1
    · cases h1
    · rename_i h2
      have h3 := h.base
      have h4 := h.len
      simp only [not_or, Nat.not_lt, last] at h2
      show (sorted r.match_).getD ((r.n - 1) / 2).toNat 0 ≤ 18446744073709551615
      omega
  · exact h
theorem agree_next (r : NodeP) : r.agree.next = r.next := by unfold NodeP.agree; split <;> rfl
theorem agree_n (r : NodeP) : r.agree.n = r.n := by unfold NodeP.agree; split <;> rfl
end NodeP
theorem rep_step {n k v : Nat} (h : k < n) : (List.replicate k v ++ List.replicate (n - k) 0).set k v = List.replicate (k + 1) v ++ List.replicate (n - (k + 1)) 0 := by
  rw [List.set_append_right _ _ (by simp), List.length_replicate, Nat.sub_self, show n - k = (n - (k + 1)) + 1 by omega, List.replicate_succ, List.set_cons_zero, List.replicate_succ', List.append_assoc]
  simp
theorem opt_eq {o : Option Nat} {t : Nat} (h1 : o.isSome = true) (h2 : o.getD 0 = t) : o = some t := by
  cases o with
  | none => cases h1
  | some x => rw [← h2]; rfl

end Go.Proofs.Ytlhibbjnhdcffaa
