/- Proved here: the part D of the proof that the law of this seat returns true for every input; no condition. -/
import Derived.Test.YtlhibbjnhdcffaaGl11
set_option maxRecDepth 20000
set_option linter.unusedVariables false
set_option linter.unusedSimpArgs false
namespace Go.Proofs.Ytlhibbjnhdcffaa
open Go Go.Gl

/-- raft.Entry, with its slices' heads. -/
structure Entry where
  Term : Nat
  Data : Sl UInt8
/-- raft.Entry, plain. -/
structure EntryP where
  Term : Nat
  Data : List UInt8
  deriving DecidableEq
def Entry.cells (x : Entry) : List Value := [.int .u64 (x.Term : Int), x.Data.v]
def Entry.abs (x : Entry) : EntryP := ⟨x.Term, x.Data.xs⟩
structure Entry.Ok (I : Gh) (x : Entry) : Prop where
  Term : x.Term ≤ 18446744073709551615
  Data : FRow rByte I [] x.Data
theorem Entry.Ok.mono {I J : Gh} {x : Entry} (h : x.Ok I) (hI : I.le J) : x.Ok J := ⟨h.Term, h.Data.le hI⟩
def rEntry : Rep Entry := ⟨2, 32, Entry.cells, fun I x => x.Ok I, fun _ => rfl, fun h hI => h.mono hI, fun x v hv => by simp [Entry.cells] at hv; rcases hv with rfl | rfl <;> rfl, by decide⟩
/-- raft.Msg, with its slices' heads. -/
structure Msg where
  Kind : Int
  From : Int
  To : Int
  Term : Nat
  Index : Nat
  LogTerm : Nat
  Commit : Nat
  Entries : Sl Entry
  OK : Bool
  Data : Sl UInt8
/-- raft.Msg, plain. -/
structure MsgP where
  Kind : Int
  From : Int
  To : Int
  Term : Nat
  Index : Nat
  LogTerm : Nat
  Commit : Nat
  Entries : List EntryP
  OK : Bool
  Data : List UInt8
  deriving DecidableEq
def Msg.cells (x : Msg) : List Value := [.int .i64 (x.Kind : Int), .int .i64 (x.From : Int), .int .i64 (x.To : Int), .int .u64 (x.Term : Int), .int .u64 (x.Index : Int), .int .u64 (x.LogTerm : Int), .int .u64 (x.Commit : Int), x.Entries.v, .bool x.OK, x.Data.v]
def Msg.abs (x : Msg) : MsgP := ⟨x.Kind, x.From, x.To, x.Term, x.Index, x.LogTerm, x.Commit, x.Entries.xs.map Entry.abs, x.OK, x.Data.xs⟩
structure Msg.Ok (I : Gh) (x : Msg) : Prop where
  Kind : -9223372036854775808 ≤ x.Kind ∧ x.Kind ≤ 9223372036854775807
  From : -9223372036854775808 ≤ x.From ∧ x.From ≤ 9223372036854775807
  To : -9223372036854775808 ≤ x.To ∧ x.To ≤ 9223372036854775807
  Term : x.Term ≤ 18446744073709551615
  Index : x.Index ≤ 18446744073709551615
  LogTerm : x.LogTerm ≤ 18446744073709551615
  Commit : x.Commit ≤ 18446744073709551615
  Entries : FRow rEntry I [] x.Entries
  Data : FRow rByte I [] x.Data
theorem Msg.Ok.mono {I J : Gh} {x : Msg} (h : x.Ok I) (hI : I.le J) : x.Ok J := ⟨h.Kind, h.From, h.To, h.Term, h.Index, h.LogTerm, h.Commit, h.Entries.le hI, h.Data.le hI⟩
def rMsg : Rep Msg := ⟨10, 112, Msg.cells, fun I x => x.Ok I, fun _ => rfl, fun h hI => h.mono hI, fun x v hv => by simp [Msg.cells] at hv; rcases hv with rfl | rfl | rfl | rfl | rfl | rfl | rfl | rfl | rfl | rfl <;> rfl, by decide⟩
/-- raft.Node, with its slices' heads. -/
structure Node where
  Term : Nat
  Vote : Int
  Base : Nat
  BaseTerm : Nat
  Entries : Sl Entry
  id : Int
  n : Int
  limit : Int
  role : Int
  lead : Int
  commit : Nat
  clock : Int
  votes : Sl Bool
  match_ : Sl Nat
  next : Sl Nat
/-- raft.Node, plain. -/
structure NodeP where
  Term : Nat
  Vote : Int
  Base : Nat
  BaseTerm : Nat
  Entries : List EntryP
  id : Int
  n : Int
  limit : Int
  role : Int
  lead : Int
  commit : Nat
  clock : Int
  votes : List Bool
  match_ : List Nat
  next : List Nat
  deriving DecidableEq
def Node.cells (x : Node) : List Value := [.int .u64 (x.Term : Int), .int .i64 (x.Vote : Int), .int .u64 (x.Base : Int), .int .u64 (x.BaseTerm : Int), x.Entries.v, .int .i64 (x.id : Int), .int .i64 (x.n : Int), .int .i64 (x.limit : Int), .int .i64 (x.role : Int), .int .i64 (x.lead : Int), .int .u64 (x.commit : Int), .int .i64 (x.clock : Int), x.votes.v, x.match_.v, x.next.v]
def Node.abs (x : Node) : NodeP := ⟨x.Term, x.Vote, x.Base, x.BaseTerm, x.Entries.xs.map Entry.abs, x.id, x.n, x.limit, x.role, x.lead, x.commit, x.clock, x.votes.xs, x.match_.xs, x.next.xs⟩
/-- raft.Node in memory, with slices of its own. -/
def NodeAt (I : Gh) (b : Nat) (r : NodeP) (Ss : List Seg) : Prop := ∃ (x : Node) (S0 S1 S2 S3 : Seg), x.abs = r ∧ Ss = [[(b, .cells x.cells.toArray 47)], S0, S1, S2, S3] ∧ OwnR rEntry I 125 x.Entries S0 ∧ OwnR rBool I 4 x.votes S1 ∧ OwnR rU64 I 22 x.match_ S2 ∧ OwnR rU64 I 22 x.next S3
theorem NodeAt.intro {I : Gh} {b : Nat} {S0 S1 S2 S3 : Seg} (x : Node) (ho0 : OwnR rEntry I 125 x.Entries S0) (ho1 : OwnR rBool I 4 x.votes S1) (ho2 : OwnR rU64 I 22 x.match_ S2) (ho3 : OwnR rU64 I 22 x.next S3) : NodeAt I b x.abs [[(b, .cells x.cells.toArray 47)], S0, S1, S2, S3] := ⟨x, S0, S1, S2, S3, rfl, rfl, ho0, ho1, ho2, ho3⟩
theorem NodeAt.to {I : Gh} {b : Nat} {r : NodeP} {S0 S1 S2 S3 : Seg} (x : Node) (ho0 : OwnR rEntry I 125 x.Entries S0) (ho1 : OwnR rBool I 4 x.votes S1) (ho2 : OwnR rU64 I 22 x.match_ S2) (ho3 : OwnR rU64 I 22 x.next S3) (h : x.abs = r) : NodeAt I b r [[(b, .cells x.cells.toArray 47)], S0, S1, S2, S3] := ⟨x, S0, S1, S2, S3, h, rfl, ho0, ho1, ho2, ho3⟩
theorem drop_of_get {α : Type} {l : List α} {k : Nat} {x : α} (h : l[k]? = some x) : l.drop k = x :: l.drop (k + 1) := by
  obtain ⟨hk, hx⟩ := List.getElem?_eq_some_iff.1 h
  rw [List.drop_eq_getElem_cons hk, hx]
theorem take_min_len {α : Type} {l : List α} {k n : Nat} (h : n = l.length) : l.take (min k n) = l.take k := by rw [List.take_eq_take_iff]; omega
theorem get_some {α : Type} {l : List α} {k : Nat} (h : k < l.length) : ∃ x, l[k]? = some x := ⟨l[k], by simp [h]⟩

/-! ### What the functions of raft compute -/
def risingP : List EntryP → Nat → Nat → Bool
  | [], low, high => decide (low ≤ high)
  | e :: r, low, high => if e.Term < low then false else risingP r e.Term high
namespace NodeP
def last (r : NodeP) : Nat := r.Base + r.Entries.length
def termAt (r : NodeP) (i : Nat) : Option Nat := if i < r.Base ∨ r.last < i then none else if i = r.Base then some r.BaseTerm else r.Entries[i - r.Base - 1]?.map (·.Term)
def lastTerm (r : NodeP) : Nat := (r.termAt r.last).getD 0
def from_ (r : NodeP) (i : Nat) : List EntryP := if r.last < i then [] else r.Entries.drop (max i (r.Base + 1) - r.Base - 1)
def follow (r : NodeP) (term : Nat) (lead : Int) : NodeP := if r.Term < term then { r with Term := term, Vote := -1, role := 0, lead := lead } else { r with role := 0, lead := lead }
def others (r : NodeP) (F : Int → MsgP) : List MsgP := ((List.range r.n.toNat).filter fun (k : Nat) => !decide ((k : Int) = r.id)).map fun (k : Nat) => { F (k : Int) with From := r.id, To := (k : Int) }
def ask (r : NodeP) (kind : Int) (term : Nat) : MsgP := ⟨kind, 0, 0, term, r.last, r.lastTerm, 0, [], false, []⟩
def call (r : NodeP) (kind : Int) (term : Nat) : NodeP × List MsgP :=
  ({ r with votes := (List.replicate r.n.toNat false).set r.id.toNat true }, r.others fun _ => r.ask kind term)
def most (r : NodeP) (vs : List Bool) : Bool := decide (r.n < 2 * ((vs.count true : Nat) : Int))
def send (r : NodeP) (to : Int) : MsgP :=
  if r.next.getD to.toNat 0 ≤ r.Base then ⟨7, 0, 0, r.Term, r.Base, r.BaseTerm, 0, [], false, []⟩
  else ⟨5, 0, 0, r.Term, r.next.getD to.toNat 0 - 1, (r.termAt (r.next.getD to.toNat 0 - 1)).getD 0, r.commit, (r.from_ (r.next.getD to.toNat 0)).take 16, false, []⟩
/-- Small enough that nothing runs over. -/
def proper (r : NodeP) (m : MsgP) : Bool :=
  !(decide (m.From < 0) || decide (r.n ≤ m.From) || !decide (m.To = r.id) || decide (m.From = r.id) || decide (m.Kind < 1) || decide (7 < m.Kind)) && (risingP m.Entries 0 m.Term && decide (m.Index ≤ 4611686018427387904) && decide (m.Term ≤ 4611686018427387904))
def upToDate (r : NodeP) (m : MsgP) : Bool := decide (r.lastTerm < m.LogTerm) || (decide (m.LogTerm = r.lastTerm) && decide (r.last ≤ m.Index))
structure Few (r : NodeP) : Prop where
  base : r.Base ≤ 9000000000000000000
  len : r.Entries.length ≤ 1000000000
  term : r.Term ≤ 4611686018427387904
  id0 : 0 ≤ r.id
  idn : r.id < r.n
  n5 : r.n ≤ 5
  lim0 : 1 ≤ r.limit
  lim1 : r.limit ≤ 1000
  clk0 : 0 ≤ r.clock
  clk1 : r.clock ≤ 2000
  bt : r.BaseTerm ≤ 4611686018427387904
  trm : ∀ e ∈ r.Entries, e.Term ≤ 4611686018427387904
  cmt : r.commit ≤ 18446744073709551615
theorem termAt_le {r : NodeP} (h : r.Few) (i : Nat) : (r.termAt i).getD 0 ≤ 4611686018427387904 := by
  unfold termAt
  split
  · simp
  · split
    · exact h.bt
    · cases he : r.Entries[i - r.Base - 1]? with
      | none => simp
      | some e => exact h.trm e (List.mem_of_getElem? he)
theorem lastTerm_le {r : NodeP} (h : r.Few) : r.lastTerm ≤ 4611686018427387904 := termAt_le h _
end NodeP

end Go.Proofs.Ytlhibbjnhdcffaa
