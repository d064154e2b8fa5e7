/- Proved here: the part Q of the proof that the law of this seat returns true for every input; no condition. -/
import Derived.Test.YtlhibbjnhdcffaaP
set_option maxRecDepth 20000
set_option linter.unusedVariables false
set_option linter.unusedSimpArgs false
namespace Go.Proofs.Ytlhibbjnhdcffaa
open Go Go.Gl

/-- caissonlaw17.Form, with its slices' heads. -/
structure Form where
  Term : Nat
  Vote : Int
  Base : Nat
  BaseTerm : Nat
  Terms : Sl Nat
/-- caissonlaw17.Form, plain. -/
structure FormP where
  Term : Nat
  Vote : Int
  Base : Nat
  BaseTerm : Nat
  Terms : List Nat
  deriving DecidableEq
def Form.cells (x : Form) : List Value := [.int .u64 (x.Term : Int), .int .i64 (x.Vote : Int), .int .u64 (x.Base : Int), .int .u64 (x.BaseTerm : Int), x.Terms.v]
def Form.abs (x : Form) : FormP := ⟨x.Term, x.Vote, x.Base, x.BaseTerm, x.Terms.xs⟩
structure Form.Ok (I : Gh) (x : Form) : Prop where
  Term : x.Term ≤ 18446744073709551615
  Vote : -9223372036854775808 ≤ x.Vote ∧ x.Vote ≤ 9223372036854775807
  Base : x.Base ≤ 18446744073709551615
  BaseTerm : x.BaseTerm ≤ 18446744073709551615
  Terms : FRow rU64 I [] x.Terms
theorem Form.Ok.mono {I J : Gh} {x : Form} (h : x.Ok I) (hI : I.le J) : x.Ok J := ⟨h.Term, h.Vote, h.Base, h.BaseTerm, h.Terms.le hI⟩
def rForm : Rep Form := ⟨5, 56, Form.cells, fun I x => x.Ok I, fun _ => rfl, fun h hI => h.mono hI, fun x v hv => by simp [Form.cells] at hv; rcases hv with rfl | rfl | rfl | rfl | rfl <;> rfl, by decide⟩
/-- caissonlaw17.Note, with its slices' heads. -/
structure Note where
  Kind : Int
  From : Int
  To : Int
  Term : Nat
  Index : Nat
  LogTerm : Nat
  Commit : Nat
  Terms : Sl Nat
  OK : Bool
/-- caissonlaw17.Note, plain. -/
structure NoteP where
  Kind : Int
  From : Int
  To : Int
  Term : Nat
  Index : Nat
  LogTerm : Nat
  Commit : Nat
  Terms : List Nat
  OK : Bool
  deriving DecidableEq
def Note.cells (x : Note) : List Value := [.int .i64 (x.Kind : Int), .int .i64 (x.From : Int), .int .i64 (x.To : Int), .int .u64 (x.Term : Int), .int .u64 (x.Index : Int), .int .u64 (x.LogTerm : Int), .int .u64 (x.Commit : Int), x.Terms.v, .bool x.OK]
def Note.abs (x : Note) : NoteP := ⟨x.Kind, x.From, x.To, x.Term, x.Index, x.LogTerm, x.Commit, x.Terms.xs, x.OK⟩
structure Note.Ok (I : Gh) (x : Note) : Prop where
  Kind : -9223372036854775808 ≤ x.Kind ∧ x.Kind ≤ 9223372036854775807
  From : -9223372036854775808 ≤ x.From ∧ x.From ≤ 9223372036854775807
  To : -9223372036854775808 ≤ x.To ∧ x.To ≤ 9223372036854775807
  Term : x.Term ≤ 18446744073709551615
  Index : x.Index ≤ 18446744073709551615
  LogTerm : x.LogTerm ≤ 18446744073709551615
  Commit : x.Commit ≤ 18446744073709551615
  Terms : FRow rU64 I [] x.Terms
theorem Note.Ok.mono {I J : Gh} {x : Note} (h : x.Ok I) (hI : I.le J) : x.Ok J := ⟨h.Kind, h.From, h.To, h.Term, h.Index, h.LogTerm, h.Commit, h.Terms.le hI⟩
def rNote : Rep Note := ⟨9, 88, Note.cells, fun I x => x.Ok I, fun _ => rfl, fun h hI => h.mono hI, fun x v hv => by simp [Note.cells] at hv; rcases hv with rfl | rfl | rfl | rfl | rfl | rfl | rfl | rfl | rfl <;> rfl, by decide⟩
/-- caissonref17.Entry, with its slices' heads. -/
structure REntry where
  Term : Nat
  Data : Sl UInt8
/-- caissonref17.Entry, plain. -/
structure REntryP where
  Term : Nat
  Data : List UInt8
  deriving DecidableEq
def REntry.cells (x : REntry) : List Value := [.int .u64 (x.Term : Int), x.Data.v]
def REntry.abs (x : REntry) : REntryP := ⟨x.Term, x.Data.xs⟩
structure REntry.Ok (I : Gh) (x : REntry) : Prop where
  Term : x.Term ≤ 18446744073709551615
  Data : FRow rByte I [] x.Data
theorem REntry.Ok.mono {I J : Gh} {x : REntry} (h : x.Ok I) (hI : I.le J) : x.Ok J := ⟨h.Term, h.Data.le hI⟩
def rREntry : Rep REntry := ⟨2, 32, REntry.cells, fun I x => x.Ok I, fun _ => rfl, fun h hI => h.mono hI, fun x v hv => by simp [REntry.cells] at hv; rcases hv with rfl | rfl <;> rfl, by decide⟩
/-- caissonref17.Node, with its slices' heads. -/
structure RNode where
  Term : Nat
  Vote : Int
  Role : Int
  Base : Nat
  BaseTerm : Nat
  Log : Sl REntry
  Commit : Nat
/-- caissonref17.Node, plain. -/
structure RNodeP where
  Term : Nat
  Vote : Int
  Role : Int
  Base : Nat
  BaseTerm : Nat
  Log : List REntryP
  Commit : Nat
  deriving DecidableEq
def RNode.cells (x : RNode) : List Value := [.int .u64 (x.Term : Int), .int .i64 (x.Vote : Int), .int .i64 (x.Role : Int), .int .u64 (x.Base : Int), .int .u64 (x.BaseTerm : Int), x.Log.v, .int .u64 (x.Commit : Int)]
def RNode.abs (x : RNode) : RNodeP := ⟨x.Term, x.Vote, x.Role, x.Base, x.BaseTerm, x.Log.xs.map REntry.abs, x.Commit⟩
structure RNode.Ok (I : Gh) (x : RNode) : Prop where
  Term : x.Term ≤ 18446744073709551615
  Vote : -9223372036854775808 ≤ x.Vote ∧ x.Vote ≤ 9223372036854775807
  Role : -9223372036854775808 ≤ x.Role ∧ x.Role ≤ 9223372036854775807
  Base : x.Base ≤ 18446744073709551615
  BaseTerm : x.BaseTerm ≤ 18446744073709551615
  Log : FRow rREntry I [] x.Log
  Commit : x.Commit ≤ 18446744073709551615
theorem RNode.Ok.mono {I J : Gh} {x : RNode} (h : x.Ok I) (hI : I.le J) : x.Ok J := ⟨h.Term, h.Vote, h.Role, h.Base, h.BaseTerm, h.Log.le hI, h.Commit⟩
def rRNode : Rep RNode := ⟨7, 72, RNode.cells, fun I x => x.Ok I, fun _ => rfl, fun h hI => h.mono hI, fun x v hv => by simp [RNode.cells] at hv; rcases hv with rfl | rfl | rfl | rfl | rfl | rfl | rfl <;> rfl, by decide⟩
theorem os_conv8 {P : Program} {n : Nat} {e : Env} {I : Gh} {L : List Seg} {d : Option Tmp} {ty : TypeId} {pos : String} {af : Array Edge} {g : Option (Nat × Bool)} {s t : TypeId} {x : Operand} {k : IntKind} {p : Nat} (hx : ev e x = some (.int k (p : Int))) (hs : ∃ q, P.underlying s = some (.int q)) (ht : P.underlying t = some (.int .u8)) :
    OS P n ⟨d, .convert s t x, ty, pos, af, g⟩ e I L (.int .u8 (((UInt8.ofNat p).toNat : Nat) : Int)) := by
  have h := os_conv (P := P) (n := n) (I := I) (L := L) (d := d) (ty := ty) (pos := pos) (af := af) (g := g) hx hs ht
  rwa [show IntKind.u8.wrap ((p : Nat) : Int) = (((UInt8.ofNat p).toNat : Nat) : Int) by rw [IntKind.wrap_u8, UInt8.toNat_ofNat']; omega] at h
/-- Entries of the terms, with data by place. -/
def laid (f : Nat → List UInt8) (ts : List Nat) : List EntryP := ts.mapIdx fun i t => ⟨t, f i⟩
theorem laid_step {f : Nat → List UInt8} {ts : List Nat} {k t : Nat} (h : ts[k]? = some t) : laid f (ts.take (k + 1)) = laid f (ts.take k) ++ [⟨t, f k⟩] := by
  have hk := (List.getElem?_eq_some_iff.1 h).1
  rw [List.take_add_one, h, laid, laid, Option.toList_some, List.mapIdx_concat, List.length_take, Nat.min_eq_left (by omega)]
theorem laid_length (f : Nat → List UInt8) (ts : List Nat) : (laid f ts).length = ts.length := by simp [laid]
def stateOf (f : FormP) : StateRP := ⟨f.Term, f.Vote, f.Base, f.BaseTerm, laid (fun i => [UInt8.ofNat i]) f.Terms⟩
def msgOf (m : NoteP) : MsgP := ⟨m.Kind, m.From, m.To, m.Term, m.Index, m.LogTerm, m.Commit, laid (fun i => [UInt8.ofNat i, 7]) m.Terms, m.OK, []⟩
def refOf (r : NodeP) : RNodeP := ⟨r.Term, r.Vote, r.role, r.Base, r.BaseTerm, r.Entries.map (fun e => ⟨e.Term, e.Data⟩), r.commit⟩
theorem l_state {I : Gh} {L : List Seg} {f : Form} (hf : Form.Ok I f) (hp0 : f.abs.Terms.length ≤ 1048576) : PC Try.prog 13 #[.agg (f.cells).toArray] I L fun K v => ∃ (y0 : StateR), v = .agg (y0.cells).toArray ∧ StateR.Ok K y0 ∧ y0.abs = stateOf f.abs := by
  refine PC.of (n := 36) Try.func13 rfl Try.ntmps13 rfl fun I0 L0 hI0 hL0 => ?_
  have hf := hf.mono hI0
  simp only [Form.abs] at hp0
  have hfl := FRow.len hf.Terms
  have hft := hf.Term
  have hfv := hf.Vote
  refine EW_seq ?_
  -- region 0  law.go:32
  refine EW_region ?_
  refine EL_a rfl rfl rfl (oa_box rfl) ?_
  intro b1
  refine EL_a rfl rfl rfl (oa_alloc z36) ?_
  intro b2
  refine EL_nil ?_
  refine EQ_then (EQ_wp ?_)
  refine EW_seq ?_
  -- region 1  law.go:33
  refine EW_region ?_
  refine EL_s rfl rfl rfl (os_field rfl fl25_0) ?_
  refine EL_s rfl rfl rfl (os_load_one rfl one22 (cells_own (own_tail own_head) rfl)) ?_
  refine EL_s rfl rfl rfl (os_field rfl fl25_1) ?_
  refine EL_s rfl rfl rfl (os_load_one rfl one3 (cells_own (own_tail own_head) rfl)) ?_
  refine EL_s rfl rfl rfl (os_struct (cs := [_, _]) [(0, _), (1, _)] pl33 z33 rfl rfl) ?_
  refine EL_s rfl rfl rfl (os_field rfl fl25_2) ?_
  refine EL_s rfl rfl rfl (os_load_one rfl one22 (cells_own (own_tail own_head) rfl)) ?_
  refine EL_s rfl rfl rfl (os_field rfl fl25_3) ?_
  refine EL_s rfl rfl rfl (os_load_one rfl one22 (cells_own (own_tail own_head) rfl)) ?_
  refine EL_s rfl rfl rfl (os_struct (cs := [_, _, _, _, _]) [(0, _), (1, _), (2, _)] pl36 z36 rfl rfl) ?_
  refine EL_a rfl rfl rfl (oa_alloc z36) ?_
  intro b3
  refine EL_u rfl rfl (ox_store rfl rfl sz36 rfl (by rfl) (.head .head)) ?_
  refine EL_nil ?_
  refine EQ_then (EQ_wp ?_)
  refine EW_seq ?_
  refine EW_seq ?_
  -- region 2  law.go:34
  refine EW_region ?_
  refine EL_s rfl rfl rfl (os_field rfl fl25_4) ?_
  refine EL_s rfl rfl rfl (os_load_one rfl one23 (cells_own (own_tail (own_tail own_head)) rfl)) ?_
  have hl18 := (show f.Terms.h.n = f.Terms.xs.length from FRow.len hf.Terms)
  refine EL_s rfl rfl rfl (os_len rfl sl23) ?_
  refine EL_s rfl rfl rfl (os_move rfl) ?_
  refine EL_nil ?_
  refine EQ_then (EQ_wp ?_)
  refine EW_block ?_
  refine EW_loop (σ := Gh × Nat × Seg × (Sl Entry)) (fun ⟨IJ0, k, S, o⟩ => [(2, (.pointer (some ⟨b2, 0, none⟩))), (3, (.pointer (some ⟨b3, 0, none⟩))), (17, (f.Terms.v)), (18, (.int .i64 ((f.Terms.h.n : Nat) : Int))), (19, (.int .i64 ((k : Nat) : Int)))]) (fun ⟨IJ0, k, S, o⟩ => IJ0) (fun ⟨IJ0, k, S, o⟩ => S :: [(b3, .cells #[(.int .u64 ((f.Term : Nat) : Int)), (.int .i64 f.Vote), (.int .u64 ((f.Base : Nat) : Int)), (.int .u64 ((f.BaseTerm : Nat) : Int)), (o.v)] 36)] :: [(b2, .cells #[(.int .u64 0), (.int .i64 0), (.int .u64 0), (.int .u64 0), (.slice none 0 0)] 36)] :: [(b1, .cells #[(.int .u64 ((f.Term : Nat) : Int)), (.int .i64 f.Vote), (.int .u64 ((f.Base : Nat) : Int)), (.int .u64 ((f.BaseTerm : Nat) : Int)), (f.Terms.v)] 25)] :: L0) (fun ⟨IJ0, k, S, o⟩ => I0.le IJ0 ∧ k ≤ f.Terms.xs.length ∧ OwnR rEntry IJ0 125 o S ∧ o.xs.map Entry.abs = laid (fun i => [UInt8.ofNat i]) (f.Terms.xs.take k)) (fun ⟨IJ0, k, S, o⟩ => f.Terms.xs.length - k) (I0, 0, [], ⟨⟨none, 0, 0⟩, []⟩) ⟨Gh.le.refl _, ⟨Nat.zero_le _, OwnR.none _ _ _, rfl⟩⟩ ⟨rfl, rfl, rfl, rfl, rfl, trivial⟩ (fun w h => h.incl (Incl.of_nil (.refl _))) ?_
  rintro ⟨IJ0, k, S, o⟩ ⟨hIJ0, ⟨hk, ho, ha⟩⟩
  have hlo := congrArg List.length ha
  simp only [List.length_map, laid_length, List.length_take] at hlo
  refine EW_seq ?_
  -- region 3  law.go:34
  refine EW_region ?_
  refine EL_s rfl rfl rfl (os_lss rfl rfl) ?_
  refine EL_nil ?_
  refine EQ_then (EQ_wp ?_)
  refine EW_seq ?_
  refine EW_cond rfl (fun hc20 => ?_) (fun hc20 => ?_)
  · have hb20 := hc20
    try simp only [Bool.or_eq_true, Bool.and_eq_true, Bool.or_eq_false_iff, Bool.and_eq_false_iff, decide_eq_true_eq, decide_eq_false_iff_not, Bool.not_eq_true', Bool.not_eq_false', Int.natCast_inj, Int.ofNat_lt, Int.ofNat_le] at hc20
    refine EW_skip ?_
    refine EQ_then (EQ_wp ?_)
    refine EW_seq ?_
    refine EW_block ?_
    refine EW_seq ?_
    -- region 4  law.go:34
    refine EW_region ?_
    refine EL_s rfl rfl rfl (os_move rfl) ?_
    have hl22 := (show f.Terms.h.n = f.Terms.xs.length from FRow.len hf.Terms)
    obtain ⟨x22, hx22⟩ := get_some (l := f.Terms.xs) (k := k) (by first | omega | (simp only [List.length_set, List.length_replicate, List.length_cons, List.length_nil]; omega) | (simp <;> omega))
    refine EL_s rfl rfl rfl (os_at (m := f.Terms.h.n) (k) rfl rfl (by omega) sl23 (by omega) (by have hz_ := FRow.some hf.Terms (by show 0 < f.Terms.h.n; omega); exact hz_)) ?_
    have hk23 : x22 ≤ 18446744073709551615 := FRow.okAt hf.Terms hx22
    refine EL_s rfl rfl rfl (os_load_one rfl one22 (FRow.whole (FRow.mono hf.Terms hIJ0 (Incl.nil _)) hx22)) ?_
    refine EL_s rfl rfl rfl (os_assign rfl) ?_
    refine EL_s rfl rfl rfl (os_assign rfl) ?_
    refine EL_nil ?_
    refine EQ_then (EQ_wp ?_)
    -- region 5  law.go:35
    refine EW_region ?_
    refine EL_s rfl rfl rfl (os_field rfl fl36_3) ?_
    refine EL_s rfl rfl rfl (os_load_one rfl one34 (cells_own (own_tail own_head) rfl)) ?_
    refine EL_s rfl rfl rfl (os_move rfl) ?_
    refine EL_s rfl rfl rfl (os_move rfl) ?_
    refine EL_s rfl rfl rfl (os_conv8 (p := k) rfl ⟨_, int3⟩ int5) ?_
    refine EL_a rfl rfl rfl (oa_slice [_] sl39 z5 rfl rfl rfl rfl) ?_
    intro b29
    have hob29 : OwnR rByte IJ0 5 (Sl.mk (Hd.mk (some ⟨b29, 0, none⟩) 1 1) [(UInt8.ofNat k)]) [(b29, .cells _ 5)] := OwnR.lit rfl rfl (by unfold maxLen; omega) (by decide) (fun x hx => by simp only [List.mem_cons, List.not_mem_nil, or_false] at hx; rcases hx with rfl <;> first | exact trivial)
    refine EL_freeze (.refl _) (fun If29 hIf29 hff29 => ?_)
    have hzf29 : FRow rByte If29 [] (Sl.mk (Hd.mk (some ⟨b29, 0, none⟩) 1 1) [(UInt8.ofNat k)]) := OwnR.frow (hob29.mono hIf29) fun x hx => .inl (hff29 x hx)
    refine EL_s rfl rfl rfl (os_struct (cs := [_, _]) [(0, _), (1, _)] pl125 z125 rfl rfl) ?_
    have hr_y31_0 : Entry.Ok If29 (Entry.mk x22 (Sl.mk (Hd.mk (some ⟨b29, 0, none⟩) 1 1) [(UInt8.ofNat k)])) := ⟨(by first | omega | (dsimp only; omega)), (FRow.mono hzf29 (.refl _) (.refl _))⟩
    refine EL_a rfl rfl rfl (oa_slice [_] sl34 z125 rfl rfl rfl rfl) ?_
    intro b31
    have hob31 : OwnR rEntry If29 125 (Sl.mk (Hd.mk (some ⟨b31, 0, none⟩) 1 1) [(Entry.mk x22 (Sl.mk (Hd.mk (some ⟨b29, 0, none⟩) 1 1) [(UInt8.ofNat k)]))]) [(b31, .cells _ 125)] := OwnR.lit rfl rfl (by unfold maxLen; omega) (by decide) (fun x hx => by simp only [List.mem_cons, List.not_mem_nil, or_false] at hx; rcases hx with rfl <;> first | exact hr_y31_0)
    refine EL_y rfl rfl rfl (ox_app (R := rEntry) (bytes := 32) (s := o) (s' := (Sl.mk (Hd.mk (some ⟨b31, 0, none⟩) 1 1) [(Entry.mk x22 (Sl.mk (Hd.mk (some ⟨b29, 0, none⟩) 1 1) [(UInt8.ofNat k)]))])) 2 rfl rfl rfl rfl sl34 z125 rfl (ho.mono hIf29) (bk_1 _ _ _) (OwnR.frow hob31 fun x hx => .inr (own_seg hx)) (by first | omega | (simp only [List.length_cons, List.length_nil]; omega)) (by unfold maxLen; first | omega | (simp only [List.length_cons, List.length_nil, Nat.zero_add]; omega))) ?_
    rintro L32 v32 ⟨s32, S32, rfl, rfl, hx32, ho32⟩
    refine EL_perm (bk_1 _ _ _) ?_
    refine EL_s rfl rfl rfl (os_field rfl fl36_3) ?_
    refine EL_u rfl rfl (ox_store rfl rfl sz34 rfl (by rfl) (.tail (.tail (.head .head)))) ?_
    refine EL_nil ?_
    refine EQ_block_normal ?_
    refine EQ_then (EQ_wp ?_)
    -- region 6  law.go:34
    refine EW_region ?_
    refine EL_s rfl rfl rfl (os_addn (p := k) (q := 1) rfl rfl (IntWalk.i64_in _ (by omega))) ?_
    refine EL_s rfl rfl rfl (os_move rfl) ?_
    refine EL_nil ?_
    refine EQ_round (If29, (k + 1), S32, s32) ?_ ?_ ?_ ?_
    · exact ⟨(hIJ0.trans hIf29), ⟨by omega, ho32, by rw [hx32, List.map_append, ha, laid_step hx22]; rfl⟩⟩
    · first | omega | (dsimp only; omega)
    · exact ⟨rfl, rfl, rfl, rfl, rfl, trivial⟩
    · exact fun w h => h.incl (Incl.skip (Incl.cons (Incl.cons (Incl.cons (Incl.cons (Incl.refl _) _) _) _) _) _)
  · have hb20 := hc20
    try simp only [Bool.or_eq_true, Bool.and_eq_true, Bool.or_eq_false_iff, Bool.and_eq_false_iff, decide_eq_true_eq, decide_eq_false_iff_not, Bool.not_eq_true', Bool.not_eq_false', Int.natCast_inj, Int.ofNat_lt, Int.ofNat_le] at hc20
    refine EW_exit ?_
    refine EQ_then_exit (EQ_then_exit (EQ_block_exit (?_)))
    refine EQ_then (EQ_wp ?_)
    refine EW_seq ?_
    -- region 7  law.go:37
    refine EW_region ?_
    refine EL_s rfl rfl rfl (os_load_agg (cs := [_, _, _, _, _]) rfl agg36 (cells_own (own_tail own_head) rfl)) ?_
    refine EL_u rfl rfl (ox_store rfl rfl sz36 rfl (by rfl) (.tail (.tail (.head .head)))) ?_
    refine EL_nil ?_
    refine EQ_then (EQ_wp ?_)
    refine EW_ret ?_
    refine EQ_freeze (.refl _) (fun Iz1_0_4 hIz1_0_4 hfz1_0_4 => ?_)
    have hzz1_0_4 : FRow rEntry Iz1_0_4 [] o := OwnR.frow (ho.mono hIz1_0_4) fun x hx => .inl (hfz1_0_4 x hx)
    have hr_ret1 : StateR.Ok Iz1_0_4 (StateR.mk f.Term f.Vote f.Base f.BaseTerm o) := ⟨hf.Term, hf.Vote, hf.Base, hf.BaseTerm, (FRow.mono hzz1_0_4 (.refl _) (.refl _))⟩
    exact pc_ret1 Try.results13 (rv_agg (cs := [(.int .u64 ((f.Term : Nat) : Int)), (.int .i64 f.Vote), (.int .u64 ((f.Base : Nat) : Int)), (.int .u64 ((f.BaseTerm : Nat) : Int)), (o.v)]) rfl agg36 (cells_own (own_tail own_head) rfl)) (hIJ0.trans hIz1_0_4) ((((Incl.refl _).skip _).skip _).skip _) ⟨(StateR.mk f.Term f.Vote f.Base f.BaseTerm o), rfl, hr_ret1, (by rw [List.take_of_length_le (by omega)] at ha; simp [StateR.abs, stateOf, Form.abs, ha])⟩ (.inl rfl)

set_option maxHeartbeats 2000000 in
theorem l_msg {I : Gh} {L : List Seg} {m : Note} (hm : Note.Ok I m) (hp0 : m.abs.Terms.length ≤ 1048576) : PC Try.prog 16 #[.agg (m.cells).toArray] I L fun K v => ∃ (y0 : Msg), v = .agg (y0.cells).toArray ∧ Msg.Ok K y0 ∧ y0.abs = msgOf m.abs := by
  refine PC.of (n := 43) Try.func16 rfl Try.ntmps16 rfl fun I0 L0 hI0 hL0 => ?_
  have hm := hm.mono hI0
  simp only [Note.abs] at hp0
  have hfl := FRow.len hm.Terms
  have h1 := hm.Kind
  have h2 := hm.From
  have h3 := hm.To
  have h4 := hm.Term
  have h5 := hm.Index
  have h6 := hm.LogTerm
  have h7 := hm.Commit
  refine EW_seq ?_
  -- region 0  law.go:40
  refine EW_region ?_
  refine EL_a rfl rfl rfl (oa_box rfl) ?_
  intro b1
  refine EL_a rfl rfl rfl (oa_alloc z41) ?_
  intro b2
  refine EL_nil ?_
  refine EQ_then (EQ_wp ?_)
  refine EW_seq ?_
  -- region 1  law.go:41
  refine EW_region ?_
  refine EL_s rfl rfl rfl (os_field rfl fl44_0) ?_
  refine EL_s rfl rfl rfl (os_load_one rfl one3 (cells_own (own_tail own_head) rfl)) ?_
  refine EL_s rfl rfl rfl (os_field rfl fl44_1) ?_
  refine EL_s rfl rfl rfl (os_load_one rfl one3 (cells_own (own_tail own_head) rfl)) ?_
  refine EL_s rfl rfl rfl (os_field rfl fl44_2) ?_
  refine EL_s rfl rfl rfl (os_load_one rfl one3 (cells_own (own_tail own_head) rfl)) ?_
  refine EL_s rfl rfl rfl (os_field rfl fl44_3) ?_
  refine EL_s rfl rfl rfl (os_load_one rfl one22 (cells_own (own_tail own_head) rfl)) ?_
  refine EL_s rfl rfl rfl (os_field rfl fl44_4) ?_
  refine EL_s rfl rfl rfl (os_load_one rfl one22 (cells_own (own_tail own_head) rfl)) ?_
  refine EL_s rfl rfl rfl (os_field rfl fl44_5) ?_
  refine EL_s rfl rfl rfl (os_load_one rfl one22 (cells_own (own_tail own_head) rfl)) ?_
  refine EL_s rfl rfl rfl (os_field rfl fl44_6) ?_
  refine EL_s rfl rfl rfl (os_load_one rfl one22 (cells_own (own_tail own_head) rfl)) ?_
  refine EL_s rfl rfl rfl (os_field rfl fl44_8) ?_
  refine EL_s rfl rfl rfl (os_load_one rfl one4 (cells_own (own_tail own_head) rfl)) ?_
  refine EL_s rfl rfl rfl (os_struct (cs := [_, _, _, _, _, _, _, _, _, _]) [(0, _), (1, _), (2, _), (3, _), (4, _), (5, _), (6, _), (8, _)] pl41 z41 rfl rfl) ?_
  refine EL_a rfl rfl rfl (oa_alloc z41) ?_
  intro b3
  refine EL_u rfl rfl (ox_store rfl rfl sz41 rfl (by rfl) (.head .head)) ?_
  refine EL_nil ?_
  refine EQ_then (EQ_wp ?_)
  refine EW_seq ?_
  refine EW_seq ?_
  -- region 2  law.go:42
  refine EW_region ?_
  refine EL_s rfl rfl rfl (os_field rfl fl44_7) ?_
  refine EL_s rfl rfl rfl (os_load_one rfl one23 (cells_own (own_tail (own_tail own_head)) rfl)) ?_
  have hl25 := (show m.Terms.h.n = m.Terms.xs.length from FRow.len hm.Terms)
  refine EL_s rfl rfl rfl (os_len rfl sl23) ?_
  refine EL_s rfl rfl rfl (os_move rfl) ?_
  refine EL_nil ?_
  refine EQ_then (EQ_wp ?_)
  refine EW_block ?_
  refine EW_loop (σ := Gh × Nat × Seg × (Sl Entry)) (fun ⟨IJ0, k, S, o⟩ => [(2, (.pointer (some ⟨b2, 0, none⟩))), (3, (.pointer (some ⟨b3, 0, none⟩))), (24, (m.Terms.v)), (25, (.int .i64 ((m.Terms.h.n : Nat) : Int))), (26, (.int .i64 ((k : Nat) : Int)))]) (fun ⟨IJ0, k, S, o⟩ => IJ0) (fun ⟨IJ0, k, S, o⟩ => S :: [(b3, .cells #[(.int .i64 m.Kind), (.int .i64 m.From), (.int .i64 m.To), (.int .u64 ((m.Term : Nat) : Int)), (.int .u64 ((m.Index : Nat) : Int)), (.int .u64 ((m.LogTerm : Nat) : Int)), (.int .u64 ((m.Commit : Nat) : Int)), (o.v), (.bool m.OK), (.slice none 0 0)] 41)] :: [(b2, .cells #[(.int .i64 0), (.int .i64 0), (.int .i64 0), (.int .u64 0), (.int .u64 0), (.int .u64 0), (.int .u64 0), (.slice none 0 0), (.bool false), (.slice none 0 0)] 41)] :: [(b1, .cells #[(.int .i64 m.Kind), (.int .i64 m.From), (.int .i64 m.To), (.int .u64 ((m.Term : Nat) : Int)), (.int .u64 ((m.Index : Nat) : Int)), (.int .u64 ((m.LogTerm : Nat) : Int)), (.int .u64 ((m.Commit : Nat) : Int)), (m.Terms.v), (.bool m.OK)] 44)] :: L0) (fun ⟨IJ0, k, S, o⟩ => I0.le IJ0 ∧ k ≤ m.Terms.xs.length ∧ OwnR rEntry IJ0 125 o S ∧ o.xs.map Entry.abs = laid (fun i => [UInt8.ofNat i, 7]) (m.Terms.xs.take k)) (fun ⟨IJ0, k, S, o⟩ => m.Terms.xs.length - k) (I0, 0, [], ⟨⟨none, 0, 0⟩, []⟩) ⟨Gh.le.refl _, ⟨Nat.zero_le _, OwnR.none _ _ _, rfl⟩⟩ ⟨rfl, rfl, rfl, rfl, rfl, trivial⟩ (fun w h => h.incl (Incl.of_nil (.refl _))) ?_
  rintro ⟨IJ0, k, S, o⟩ ⟨hIJ0, ⟨hk, ho, ha⟩⟩
  have hlo := congrArg List.length ha
  simp only [List.length_map, laid_length, List.length_take] at hlo
  refine EW_seq ?_
  -- region 3  law.go:42
  refine EW_region ?_
  refine EL_s rfl rfl rfl (os_lss rfl rfl) ?_
  refine EL_nil ?_
  refine EQ_then (EQ_wp ?_)
  refine EW_seq ?_
  refine EW_cond rfl (fun hc27 => ?_) (fun hc27 => ?_)
  · have hb27 := hc27
    try simp only [Bool.or_eq_true, Bool.and_eq_true, Bool.or_eq_false_iff, Bool.and_eq_false_iff, decide_eq_true_eq, decide_eq_false_iff_not, Bool.not_eq_true', Bool.not_eq_false', Int.natCast_inj, Int.ofNat_lt, Int.ofNat_le] at hc27
    refine EW_skip ?_
    refine EQ_then (EQ_wp ?_)
    refine EW_seq ?_
    refine EW_block ?_
    refine EW_seq ?_
    -- region 4  law.go:42
    refine EW_region ?_
    refine EL_s rfl rfl rfl (os_move rfl) ?_
    have hl29 := (show m.Terms.h.n = m.Terms.xs.length from FRow.len hm.Terms)
    obtain ⟨x29, hx29⟩ := get_some (l := m.Terms.xs) (k := k) (by first | omega | (simp only [List.length_set, List.length_replicate, List.length_cons, List.length_nil]; omega) | (simp <;> omega))
    refine EL_s rfl rfl rfl (os_at (m := m.Terms.h.n) (k) rfl rfl (by omega) sl23 (by omega) (by have hz_ := FRow.some hm.Terms (by show 0 < m.Terms.h.n; omega); exact hz_)) ?_
    have hk30 : x29 ≤ 18446744073709551615 := FRow.okAt hm.Terms hx29
    refine EL_s rfl rfl rfl (os_load_one rfl one22 (FRow.whole (FRow.mono hm.Terms hIJ0 (Incl.nil _)) hx29)) ?_
    refine EL_s rfl rfl rfl (os_assign rfl) ?_
    refine EL_s rfl rfl rfl (os_assign rfl) ?_
    refine EL_nil ?_
    refine EQ_then (EQ_wp ?_)
    -- region 5  law.go:43
    refine EW_region ?_
    refine EL_s rfl rfl rfl (os_field rfl fl41_7) ?_
    refine EL_s rfl rfl rfl (os_load_one rfl one34 (cells_own (own_tail own_head) rfl)) ?_
    refine EL_s rfl rfl rfl (os_move rfl) ?_
    refine EL_s rfl rfl rfl (os_move rfl) ?_
    refine EL_s rfl rfl rfl (os_conv8 (p := k) rfl ⟨_, int3⟩ int5) ?_
    refine EL_a rfl rfl rfl (oa_slice [_, _] sl39 z5 rfl rfl rfl rfl) ?_
    intro b36
    have hob36 : OwnR rByte IJ0 5 (Sl.mk (Hd.mk (some ⟨b36, 0, none⟩) 2 2) [(UInt8.ofNat k), (7 : UInt8)]) [(b36, .cells _ 5)] := OwnR.lit rfl rfl (by unfold maxLen; omega) (by decide) (fun x hx => by simp only [List.mem_cons, List.not_mem_nil, or_false] at hx; rcases hx with rfl | rfl <;> first | exact trivial | exact trivial)
    refine EL_freeze (.refl _) (fun If36 hIf36 hff36 => ?_)
    have hzf36 : FRow rByte If36 [] (Sl.mk (Hd.mk (some ⟨b36, 0, none⟩) 2 2) [(UInt8.ofNat k), (7 : UInt8)]) := OwnR.frow (hob36.mono hIf36) fun x hx => .inl (hff36 x hx)
    refine EL_s rfl rfl rfl (os_struct (cs := [_, _]) [(0, _), (1, _)] pl125 z125 rfl rfl) ?_
    have hr_y38_0 : Entry.Ok If36 (Entry.mk x29 (Sl.mk (Hd.mk (some ⟨b36, 0, none⟩) 2 2) [(UInt8.ofNat k), (7 : UInt8)])) := ⟨(by first | omega | (dsimp only; omega)), (FRow.mono hzf36 (.refl _) (.refl _))⟩
    refine EL_a rfl rfl rfl (oa_slice [_] sl34 z125 rfl rfl rfl rfl) ?_
    intro b38
    have hob38 : OwnR rEntry If36 125 (Sl.mk (Hd.mk (some ⟨b38, 0, none⟩) 1 1) [(Entry.mk x29 (Sl.mk (Hd.mk (some ⟨b36, 0, none⟩) 2 2) [(UInt8.ofNat k), (7 : UInt8)]))]) [(b38, .cells _ 125)] := OwnR.lit rfl rfl (by unfold maxLen; omega) (by decide) (fun x hx => by simp only [List.mem_cons, List.not_mem_nil, or_false] at hx; rcases hx with rfl <;> first | exact hr_y38_0)
    refine EL_y rfl rfl rfl (ox_app (R := rEntry) (bytes := 32) (s := o) (s' := (Sl.mk (Hd.mk (some ⟨b38, 0, none⟩) 1 1) [(Entry.mk x29 (Sl.mk (Hd.mk (some ⟨b36, 0, none⟩) 2 2) [(UInt8.ofNat k), (7 : UInt8)]))])) 2 rfl rfl rfl rfl sl34 z125 rfl (ho.mono hIf36) (bk_1 _ _ _) (OwnR.frow hob38 fun x hx => .inr (own_seg hx)) (by first | omega | (simp only [List.length_cons, List.length_nil]; omega)) (by unfold maxLen; first | omega | (simp only [List.length_cons, List.length_nil, Nat.zero_add]; omega))) ?_
    rintro L39 v39 ⟨s39, S39, rfl, rfl, hx39, ho39⟩
    refine EL_perm (bk_1 _ _ _) ?_
    refine EL_s rfl rfl rfl (os_field rfl fl41_7) ?_
    refine EL_u rfl rfl (ox_store rfl rfl sz34 rfl (by rfl) (.tail (.tail (.head .head)))) ?_
    refine EL_nil ?_
    refine EQ_block_normal ?_
    refine EQ_then (EQ_wp ?_)
    -- region 6  law.go:42
    refine EW_region ?_
    refine EL_s rfl rfl rfl (os_addn (p := k) (q := 1) rfl rfl (IntWalk.i64_in _ (by omega))) ?_
    refine EL_s rfl rfl rfl (os_move rfl) ?_
    refine EL_nil ?_
    refine EQ_round (If36, (k + 1), S39, s39) ?_ ?_ ?_ ?_
    · exact ⟨(hIJ0.trans hIf36), ⟨by omega, ho39, by rw [hx39, List.map_append, ha, laid_step hx29]; rfl⟩⟩
    · first | omega | (dsimp only; omega)
    · exact ⟨rfl, rfl, rfl, rfl, rfl, trivial⟩
    · exact fun w h => h.incl (Incl.skip (Incl.cons (Incl.cons (Incl.cons (Incl.cons (Incl.refl _) _) _) _) _) _)
  · have hb27 := hc27
    try simp only [Bool.or_eq_true, Bool.and_eq_true, Bool.or_eq_false_iff, Bool.and_eq_false_iff, decide_eq_true_eq, decide_eq_false_iff_not, Bool.not_eq_true', Bool.not_eq_false', Int.natCast_inj, Int.ofNat_lt, Int.ofNat_le] at hc27
    refine EW_exit ?_
    refine EQ_then_exit (EQ_then_exit (EQ_block_exit (?_)))
    refine EQ_then (EQ_wp ?_)
    refine EW_seq ?_
    -- region 7  law.go:45
    refine EW_region ?_
    refine EL_s rfl rfl rfl (os_load_agg (cs := [_, _, _, _, _, _, _, _, _, _]) rfl agg41 (cells_own (own_tail own_head) rfl)) ?_
    refine EL_u rfl rfl (ox_store rfl rfl sz41 rfl (by rfl) (.tail (.tail (.head .head)))) ?_
    refine EL_nil ?_
    refine EQ_then (EQ_wp ?_)
    refine EW_ret ?_
    refine EQ_freeze (.refl _) (fun Iz1_0_7 hIz1_0_7 hfz1_0_7 => ?_)
    have hzz1_0_7 : FRow rEntry Iz1_0_7 [] o := OwnR.frow (ho.mono hIz1_0_7) fun x hx => .inl (hfz1_0_7 x hx)
    have hr_ret1 : Msg.Ok Iz1_0_7 (Msg.mk m.Kind m.From m.To m.Term m.Index m.LogTerm m.Commit o m.OK (Sl.mk (Hd.mk none 0 0) [])) := ⟨hm.Kind, hm.From, hm.To, hm.Term, hm.Index, hm.LogTerm, hm.Commit, (FRow.mono hzz1_0_7 (.refl _) (.refl _)), (FRow.none _ _ _)⟩
    exact pc_ret1 Try.results16 (rv_agg (cs := [(.int .i64 m.Kind), (.int .i64 m.From), (.int .i64 m.To), (.int .u64 ((m.Term : Nat) : Int)), (.int .u64 ((m.Index : Nat) : Int)), (.int .u64 ((m.LogTerm : Nat) : Int)), (.int .u64 ((m.Commit : Nat) : Int)), (o.v), (.bool m.OK), (.slice none 0 0)]) rfl agg41 (cells_own (own_tail own_head) rfl)) (hIJ0.trans hIz1_0_7) ((((Incl.refl _).skip _).skip _).skip _) ⟨(Msg.mk m.Kind m.From m.To m.Term m.Index m.LogTerm m.Commit o m.OK (Sl.mk (Hd.mk none 0 0) [])), rfl, hr_ret1, (by rw [List.take_of_length_le (by omega)] at ha; simp [Msg.abs, msgOf, Note.abs, ha])⟩ (.inl rfl)

theorem r_last {I : Gh} {L : List Seg} {m : RNode} (hm : RNode.Ok I m) (hp0 : m.Base + m.Log.xs.length ≤ 18446744073709551615) : PC Try.prog 77 #[.agg (m.cells).toArray] I L fun K v => v = .int .u64 ((m.Base + m.Log.xs.length : Nat) : Int) := by
  refine PC.of (n := 10) Try.func77 rfl Try.ntmps77 rfl fun I0 L0 hI0 hL0 => ?_
  have hm := hm.mono hI0
  have hfl := FRow.len hm.Log
  refine EW_seq ?_
  -- region 0  ref.go:36
  refine EW_region ?_
  refine EL_a rfl rfl rfl (oa_box rfl) ?_
  intro b1
  refine EL_s rfl rfl rfl (os_assign rfl) ?_
  refine EL_nil ?_
  refine EQ_then (EQ_wp ?_)
  refine EW_seq ?_
  -- region 1  ref.go:36
  refine EW_region ?_
  refine EL_s rfl rfl rfl (os_field rfl fl55_3) ?_
  refine EL_s rfl rfl rfl (os_load_one rfl one22 (cells_own own_head rfl)) ?_
  refine EL_s rfl rfl rfl (os_field rfl fl55_5) ?_
  refine EL_s rfl rfl rfl (os_load_one rfl one53 (cells_own own_head rfl)) ?_
  have hl7 := (show m.Log.h.n = m.Log.xs.length from FRow.len hm.Log)
  refine EL_s rfl rfl rfl (os_len rfl sl53) ?_
  refine EL_s rfl rfl rfl (os_convn (p := m.Log.h.n) rfl ⟨_, int3⟩ int22 (IntWalk.u64_in _ (by omega))) ?_
  refine EL_s rfl rfl rfl (os_addn (p := m.Base) (q := m.Log.h.n) rfl rfl (IntWalk.u64_in _ (by omega))) ?_
  refine EL_s rfl rfl rfl (os_assign rfl) ?_
  refine EL_nil ?_
  refine EQ_then (EQ_wp ?_)
  refine EW_ret ?_
  exact pc_ret1 Try.results77 (rv_tmp rfl) (.refl _) ((Incl.refl _).skip _) (by simp [hfl]) (.inl rfl)

/-- A node's state is in form, as the document says. -/
def formB (m : RNodeP) (n : Int) : Bool := risingP (m.Log.map fun e => ⟨e.Term, e.Data⟩) m.BaseTerm m.Term && decide (-1 ≤ m.Vote) && decide (m.Vote < n) && decide (m.Base ≤ m.Commit) && decide (m.Commit ≤ m.Base + m.Log.length)
theorem r_Form {I : Gh} {L : List Seg} {m : RNode} (hm : RNode.Ok I m) (n : Int) (hp0 : m.Base + m.Log.xs.length ≤ 18446744073709551615) : PC Try.prog 20 #[.agg (m.cells).toArray, .int .i64 n] I L fun K v => v = .bool (formB m.abs n) := by
  refine PC.of (n := 59) Try.func20 rfl Try.ntmps20 rfl fun I0 L0 hI0 hL0 => ?_
  have hm := hm.mono hI0
  have hfl := FRow.len hm.Log
  have h1 := hm.Vote
  refine EW_seq ?_
  -- region 0  ref.go:47
  refine EW_region ?_
  refine EL_a rfl rfl rfl (oa_box rfl) ?_
  intro b2
  refine EL_s rfl rfl rfl (os_assign rfl) ?_
  refine EL_nil ?_
  refine EQ_then (EQ_wp ?_)
  refine EW_seq ?_
  -- region 1  ref.go:48
  refine EW_region ?_
  refine EL_s rfl rfl rfl (os_field rfl fl55_4) ?_
  refine EL_s rfl rfl rfl (os_load_one rfl one22 (cells_own own_head rfl)) ?_
  refine EL_s rfl rfl rfl (os_assign rfl) ?_
  refine EL_nil ?_
  refine EQ_then (EQ_wp ?_)
  refine EW_seq ?_
  refine EW_seq ?_
  -- region 2  ref.go:49
  refine EW_region ?_
  refine EL_s rfl rfl rfl (os_assign rfl) ?_
  refine EL_nil ?_
  refine EQ_then (EQ_wp ?_)
  refine EW_block ?_
  refine EW_loop (σ := Nat × Nat) (fun ⟨k, lo⟩ => [(1, (.int .i64 n)), (2, (.pointer (some ⟨b2, 0, none⟩))), (5, (.int .u64 ((lo : Nat) : Int))), (6, (.int .i64 ((k : Nat) : Int)))]) (fun ⟨k, lo⟩ => I0) (fun ⟨k, lo⟩ => [(b2, .cells #[(.int .u64 ((m.Term : Nat) : Int)), (.int .i64 m.Vote), (.int .i64 m.Role), (.int .u64 ((m.Base : Nat) : Int)), (.int .u64 ((m.BaseTerm : Nat) : Int)), (m.Log.v), (.int .u64 ((m.Commit : Nat) : Int))] 55)] :: L0) (fun ⟨k, lo⟩ => k ≤ m.Log.xs.length ∧ risingP (m.abs.Log.map fun e => ⟨e.Term, e.Data⟩) m.BaseTerm m.Term = risingP ((m.abs.Log.drop k).map fun e => ⟨e.Term, e.Data⟩) lo m.Term) (fun ⟨k, lo⟩ => m.Log.xs.length - k) (0, m.BaseTerm) ⟨Nat.zero_le _, rfl⟩ ⟨rfl, rfl, rfl, rfl, trivial⟩ (fun w h => h) ?_
  rintro ⟨k, lo⟩ ⟨hk, hr⟩
  have hdl : m.Log.xs.length ≤ 18446744073709551615 := by omega
  have hff := hm.Log.few
  simp only [rREntry] at hff
  refine EW_seq ?_
  refine EW_seq ?_
  -- region 3  ref.go:49
  refine EW_region ?_
  refine EL_s rfl rfl rfl (os_move rfl) ?_
  refine EL_s rfl rfl rfl (os_field rfl fl55_5) ?_
  refine EL_s rfl rfl rfl (os_load_one rfl one53 (cells_own own_head rfl)) ?_
  have hl12 := (show m.Log.h.n = m.Log.xs.length from FRow.len hm.Log)
  refine EL_s rfl rfl rfl (os_len rfl sl53) ?_
  refine EL_s rfl rfl rfl (os_lss rfl rfl) ?_
  refine EL_nil ?_
  refine EQ_then (EQ_wp ?_)
  refine EW_cond rfl (fun hc13 => ?_) (fun hc13 => ?_)
  · have hb13 := hc13
    try simp only [Bool.or_eq_true, Bool.and_eq_true, Bool.or_eq_false_iff, Bool.and_eq_false_iff, decide_eq_true_eq, decide_eq_false_iff_not, Bool.not_eq_true', Bool.not_eq_false', Int.natCast_inj, Int.ofNat_lt, Int.ofNat_le] at hc13
    refine EW_skip ?_
    refine EQ_then (EQ_wp ?_)
    refine EW_seq ?_
    refine EW_block ?_
    refine EW_seq ?_
    refine EW_seq ?_
    -- region 5  ref.go:50
    refine EW_region ?_
    refine EL_s rfl rfl rfl (os_field rfl fl55_5) ?_
    refine EL_s rfl rfl rfl (os_load_one rfl one53 (cells_own own_head rfl)) ?_
    refine EL_s rfl rfl rfl (os_move rfl) ?_
    have hl19 := (show m.Log.h.n = m.Log.xs.length from FRow.len hm.Log)
    obtain ⟨x19, hx19⟩ := get_some (l := m.Log.xs) (k := k) (by first | omega | (simp only [List.length_set, List.length_replicate, List.length_cons, List.length_nil]; omega) | (simp <;> omega))
    refine EL_s rfl rfl rfl (os_at (m := m.Log.h.n) (k) rfl rfl (by omega) sl53 (by omega) (by have hz_ := FRow.some hm.Log (by show 0 < m.Log.h.n; omega); exact hz_)) ?_
    have hdg : m.abs.Log.drop k = x19.abs :: m.abs.Log.drop (k + 1) := drop_of_get (by simp [RNode.abs, hx19])
    refine EL_s rfl rfl rfl (os_fieldA rfl (FRow.spot hm.Log hx19) fl130_0) ?_
    have hk21 := FRow.okAt hm.Log hx19
    refine EL_s rfl rfl rfl (os_load_one rfl one22 (FRow.cell (FRow.mono hm.Log (.refl _) (Incl.nil _)) hx19 0 rfl)) ?_
    refine EL_s rfl rfl rfl (os_move rfl) ?_
    refine EL_s rfl rfl rfl (os_lss rfl rfl) ?_
    refine EL_nil ?_
    refine EQ_then (EQ_wp ?_)
    refine EW_cond rfl (fun hc23 => ?_) (fun hc23 => ?_)
    · have hb23 := hc23
      try simp only [Bool.or_eq_true, Bool.and_eq_true, Bool.or_eq_false_iff, Bool.and_eq_false_iff, decide_eq_true_eq, decide_eq_false_iff_not, Bool.not_eq_true', Bool.not_eq_false', Int.natCast_inj, Int.ofNat_lt, Int.ofNat_le] at hc23
      refine EW_seq ?_
      -- region 6  ref.go:51
      refine EW_region ?_
      refine EL_s rfl rfl rfl (os_assign rfl) ?_
      refine EL_nil ?_
      refine EQ_then (EQ_wp ?_)
      refine EW_ret ?_
      refine EQ_then_ret (EQ_block_ret (EQ_then_ret (EQ_then_ret (EQ_block_ret (EQ_then_ret (?_))))))
      exact pc_ret1 Try.results20 (rv_tmp rfl) (.refl _) ((Incl.refl _).skip _) (by refine congrArg Value.bool ?_; symm; simp only [formB]; rw [show m.abs.BaseTerm = m.BaseTerm from rfl, show m.abs.Term = m.Term from rfl, hr, hdg]; simp only [List.map_cons, risingP]; rw [if_pos (by simp only [REntry.abs]; omega)]; rfl) (.inl rfl)
    · have hb23 := hc23
      try simp only [Bool.or_eq_true, Bool.and_eq_true, Bool.or_eq_false_iff, Bool.and_eq_false_iff, decide_eq_true_eq, decide_eq_false_iff_not, Bool.not_eq_true', Bool.not_eq_false', Int.natCast_inj, Int.ofNat_lt, Int.ofNat_le] at hc23
      refine EW_skip ?_
      refine EQ_then (EQ_wp ?_)
      -- region 7  ref.go:53
      refine EW_region ?_
      refine EL_s rfl rfl rfl (os_field rfl fl55_5) ?_
      refine EL_s rfl rfl rfl (os_load_one rfl one53 (cells_own own_head rfl)) ?_
      refine EL_s rfl rfl rfl (os_move rfl) ?_
      have hl27 := (show m.Log.h.n = m.Log.xs.length from FRow.len hm.Log)
      obtain ⟨x27, hx27⟩ := get_some (l := m.Log.xs) (k := k) (by first | omega | (simp only [List.length_set, List.length_replicate, List.length_cons, List.length_nil]; omega) | (simp <;> omega))
      refine EL_s rfl rfl rfl (os_at (m := m.Log.h.n) (k) rfl rfl (by omega) sl53 (by omega) (by have hz_ := FRow.some hm.Log (by show 0 < m.Log.h.n; omega); exact hz_)) ?_
      refine EL_s rfl rfl rfl (os_fieldA rfl (FRow.spot hm.Log hx27) fl130_0) ?_
      have hk29 := FRow.okAt hm.Log hx27
      refine EL_s rfl rfl rfl (os_load_one rfl one22 (FRow.cell (FRow.mono hm.Log (.refl _) (Incl.nil _)) hx27 0 rfl)) ?_
      refine EL_s rfl rfl rfl (os_assign rfl) ?_
      refine EL_nil ?_
      refine EQ_block_normal ?_
      refine EQ_then (EQ_wp ?_)
      -- region 4  ref.go:49
      refine EW_region ?_
      refine EL_s rfl rfl rfl (os_move rfl) ?_
      refine EL_s rfl rfl rfl (os_addn (p := k) (q := 1) rfl rfl (IntWalk.i64_in _ (by omega))) ?_
      refine EL_s rfl rfl rfl (os_assign rfl) ?_
      refine EL_nil ?_
      refine EQ_round ((k + 1), x27.Term) ?_ ?_ ?_ ?_
      · exact ⟨by omega, by rw [hr, show m.abs.Log.drop k = x19.abs :: m.abs.Log.drop (k + 1) from drop_of_get (by simp [RNode.abs, hx19])]; simp only [List.map_cons, risingP]; rw [if_neg (by simp only [REntry.abs]; omega)]; simp only [REntry.abs]; first | rfl | simp_all⟩
      · first | omega | (dsimp only; omega)
      · exact ⟨rfl, rfl, rfl, rfl, trivial⟩
      · exact fun w h => h.incl (Incl.cons (Incl.refl _) _)
  · have hb13 := hc13
    try simp only [Bool.or_eq_true, Bool.and_eq_true, Bool.or_eq_false_iff, Bool.and_eq_false_iff, decide_eq_true_eq, decide_eq_false_iff_not, Bool.not_eq_true', Bool.not_eq_false', Int.natCast_inj, Int.ofNat_lt, Int.ofNat_le] at hc13
    refine EW_exit ?_
    refine EQ_then_exit (EQ_then_exit (EQ_block_exit (?_)))
    refine EQ_then (EQ_wp ?_)
    refine EW_seq ?_
    -- region 8 DRAWN  ref.go:55
    refine EW_drawC [] [⟨[], some 30, [5], .s, 0⟩, ⟨[], some 31, [2], .s, 0⟩, ⟨[1], some 32, [31], .s, 2⟩, ⟨[0, 2], some 33, [30, 32], .s, 7⟩, ⟨[3], some 34, [33], .s, 15⟩, ⟨[4], some 35, [2, 34], .s, 31⟩, ⟨[5, 4], some 36, [35, 34], .s, 63⟩, ⟨[6, 4], some 37, [36, 34], .s, 127⟩, ⟨[4, 7], some 38, [34, 37], .s, 255⟩, ⟨[8, 4], some 39, [38], .s, 511⟩, ⟨[9], some 40, [2, 39], .s, 1023⟩, ⟨[10, 9], some 41, [40, 39], .s, 2047⟩, ⟨[9], some 42, [1, 39], .s, 1023⟩, ⟨[11, 12, 9], some 43, [41, 42, 39], .s, 8191⟩, ⟨[9, 13], some 44, [39, 43], .s, 16383⟩, ⟨[14, 9], some 45, [44], .s, 32767⟩, ⟨[15], some 46, [2, 45], .s, 65535⟩, ⟨[16, 15], some 47, [46, 45], .s, 131071⟩, ⟨[15], some 48, [2, 45], .s, 65535⟩, ⟨[18, 15], some 49, [48, 45], .s, 327679⟩, ⟨[17, 19, 15], some 50, [47, 49, 45], .s, 1048575⟩, ⟨[15, 20], some 51, [45, 50], .s, 2097151⟩, ⟨[21, 15], some 52, [51], .s, 4194303⟩, ⟨[22], some 53, [2, 52], .s, 8388607⟩, ⟨[23, 22], some 54, [53, 52], .s, 16777215⟩, ⟨[22], some 55, [2, 52], .s, 8388607⟩, ⟨[25, 22, 22], some 56, [55, 52], .s, 41943039⟩, ⟨[24, 26, 22], some 57, [54, 56, 52], .s, 134217727⟩, ⟨[22, 27], some 58, [52, 57], .s, 268435455⟩, ⟨[28, 26, 0, 1, 2, 3, 4, 5, 6, 7, 8, 9, 10, 11, 12, 13, 14, 15, 16, 17, 18, 19, 20, 21, 22, 23, 24, 25, 26, 27, 28], some 4, [58], .s, 536870911⟩] [.s, .s, .s, .s, .s, .s, .s, .s, .s, .s, .s, .s, .s, .s, .s, .s, .s, .s, .s, .s, .s, .s, .s, .s, .s, .s, .s, .s, .s, .s] [0, 1, 2, 3, 4, 5, 6, 7, 8, 9, 10, 11, 12, 13, 14, 15, 16, 17, 18, 19, 20, 21, 22, 23, 24, 25, 26, 27, 28, 29] mixed (by kernel_rfl) (by kernel_rfl) (by kernel_rfl) rfl rfl ?_
    refine EP_s rfl rfl rfl rfl rfl (by exact (os_move rfl)) ?_
    refine EP_s rfl rfl rfl rfl rfl (by exact (os_field rfl fl55_0)) ?_
    refine EP_s rfl rfl rfl rfl rfl (by exact (os_load_one rfl one22 (cells_own own_head rfl))) ?_
    refine EP_s rfl rfl rfl rfl rfl (by exact (os_leq rfl rfl)) ?_
    refine EP_s rfl rfl rfl rfl rfl (by exact (os_move rfl)) ?_
    refine EP_joint 4 38 (.bool ((decide (((lo : Nat) : Int) ≤ ((m.Term : Nat) : Int))) && (decide ((-1) ≤ m.Vote)))) [5, 6, 7, 8] rfl rfl rfl ?_ ?_
    · skip
      refine ES_case (decide (((lo : Nat) : Int) ≤ ((m.Term : Nat) : Int))) (fun hg34 => ?_) (fun hg34 => ?_)
      · have hg34_ := hg34
        try simp only [Bool.or_eq_true, Bool.and_eq_true, Bool.or_eq_false_iff, Bool.and_eq_false_iff, decide_eq_true_eq, decide_eq_false_iff_not, Bool.not_eq_true', Bool.not_eq_false', Int.natCast_inj, Int.ofNat_lt, Int.ofNat_le] at hg34_
        refine ES_yes (j := 4) (b := true) rfl rfl rfl hg34 rfl rfl (os_field rfl fl55_1) ?_
        refine ES_yes (j := 4) (b := true) rfl rfl rfl hg34 rfl rfl (os_load_one rfl one3 (cells_own own_head rfl)) ?_
        refine ES_yes (j := 4) (b := true) rfl rfl rfl hg34 rfl rfl (os_geq rfl rfl) ?_
        refine ES_s rfl rfl rfl (os_pick_t' rfl hg34 rfl) ?_
        exact ES_fin 4 rfl rfl (by rw [hg34]; rfl)
      · have hg34_ := hg34
        try simp only [Bool.or_eq_true, Bool.and_eq_true, Bool.or_eq_false_iff, Bool.and_eq_false_iff, decide_eq_true_eq, decide_eq_false_iff_not, Bool.not_eq_true', Bool.not_eq_false', Int.natCast_inj, Int.ofNat_lt, Int.ofNat_le] at hg34_
        refine ES_no rfl hg34 rfl rfl rfl rfl ?_
        refine ES_no rfl hg34 rfl rfl rfl rfl ?_
        refine ES_no rfl hg34 rfl rfl rfl rfl ?_
        refine ES_s rfl rfl rfl (os_pick_f' rfl hg34 rfl) ?_
        exact ES_fin 4 rfl rfl (by rw [hg34]; rfl)
    refine EP_s rfl rfl rfl rfl rfl (by exact (os_move rfl)) ?_
    refine EP_joint 5 44 (.bool (((decide (((lo : Nat) : Int) ≤ ((m.Term : Nat) : Int))) && (decide ((-1) ≤ m.Vote))) && (decide (m.Vote < n)))) [10, 11, 12, 13, 14] rfl rfl rfl ?_ ?_
    · skip
      refine ES_case ((decide (((lo : Nat) : Int) ≤ ((m.Term : Nat) : Int))) && (decide ((-1) ≤ m.Vote))) (fun hg39 => ?_) (fun hg39 => ?_)
      · have hg39_ := hg39
        try simp only [Bool.or_eq_true, Bool.and_eq_true, Bool.or_eq_false_iff, Bool.and_eq_false_iff, decide_eq_true_eq, decide_eq_false_iff_not, Bool.not_eq_true', Bool.not_eq_false', Int.natCast_inj, Int.ofNat_lt, Int.ofNat_le] at hg39_
        refine ES_yes (j := 9) (b := true) rfl rfl rfl hg39 rfl rfl (os_field rfl fl55_1) ?_
        refine ES_yes (j := 9) (b := true) rfl rfl rfl hg39 rfl rfl (os_load_one rfl one3 (cells_own own_head rfl)) ?_
        refine ES_yes (j := 9) (b := true) rfl rfl rfl hg39 rfl rfl (os_move rfl) ?_
        refine ES_yes (j := 9) (b := true) rfl rfl rfl hg39 rfl rfl (os_lss rfl rfl) ?_
        refine ES_s rfl rfl rfl (os_pick_t' rfl hg39 rfl) ?_
        exact ES_fin 5 rfl rfl (by rw [hg39]; rfl)
      · have hg39_ := hg39
        try simp only [Bool.or_eq_true, Bool.and_eq_true, Bool.or_eq_false_iff, Bool.and_eq_false_iff, decide_eq_true_eq, decide_eq_false_iff_not, Bool.not_eq_true', Bool.not_eq_false', Int.natCast_inj, Int.ofNat_lt, Int.ofNat_le] at hg39_
        refine ES_no rfl hg39 rfl rfl rfl rfl ?_
        refine ES_no rfl hg39 rfl rfl rfl rfl ?_
        refine ES_no rfl hg39 rfl rfl rfl rfl ?_
        refine ES_no rfl hg39 rfl rfl rfl rfl ?_
        refine ES_s rfl rfl rfl (os_pick_f' rfl hg39 rfl) ?_
        exact ES_fin 5 rfl rfl (by rw [hg39]; rfl)
    refine EP_s rfl rfl rfl rfl rfl (by exact (os_move rfl)) ?_
    refine EP_joint 6 51 (.bool ((((decide (((lo : Nat) : Int) ≤ ((m.Term : Nat) : Int))) && (decide ((-1) ≤ m.Vote))) && (decide (m.Vote < n))) && (decide (((m.Base : Nat) : Int) ≤ ((m.Commit : Nat) : Int))))) [16, 17, 18, 19, 20, 21] rfl rfl rfl ?_ ?_
    · skip
      refine ES_case (((decide (((lo : Nat) : Int) ≤ ((m.Term : Nat) : Int))) && (decide ((-1) ≤ m.Vote))) && (decide (m.Vote < n))) (fun hg45 => ?_) (fun hg45 => ?_)
      · have hg45_ := hg45
        try simp only [Bool.or_eq_true, Bool.and_eq_true, Bool.or_eq_false_iff, Bool.and_eq_false_iff, decide_eq_true_eq, decide_eq_false_iff_not, Bool.not_eq_true', Bool.not_eq_false', Int.natCast_inj, Int.ofNat_lt, Int.ofNat_le] at hg45_
        refine ES_yes (j := 15) (b := true) rfl rfl rfl hg45 rfl rfl (os_field rfl fl55_6) ?_
        refine ES_yes (j := 15) (b := true) rfl rfl rfl hg45 rfl rfl (os_load_one rfl one22 (cells_own own_head rfl)) ?_
        refine ES_yes (j := 15) (b := true) rfl rfl rfl hg45 rfl rfl (os_field rfl fl55_3) ?_
        refine ES_yes (j := 15) (b := true) rfl rfl rfl hg45 rfl rfl (os_load_one rfl one22 (cells_own own_head rfl)) ?_
        refine ES_yes (j := 15) (b := true) rfl rfl rfl hg45 rfl rfl (os_geq rfl rfl) ?_
        refine ES_s rfl rfl rfl (os_pick_t' rfl hg45 rfl) ?_
        exact ES_fin 6 rfl rfl (by rw [hg45]; rfl)
      · have hg45_ := hg45
        try simp only [Bool.or_eq_true, Bool.and_eq_true, Bool.or_eq_false_iff, Bool.and_eq_false_iff, decide_eq_true_eq, decide_eq_false_iff_not, Bool.not_eq_true', Bool.not_eq_false', Int.natCast_inj, Int.ofNat_lt, Int.ofNat_le] at hg45_
        refine ES_no rfl hg45 rfl rfl rfl rfl ?_
        refine ES_no rfl hg45 rfl rfl rfl rfl ?_
        refine ES_no rfl hg45 rfl rfl rfl rfl ?_
        refine ES_no rfl hg45 rfl rfl rfl rfl ?_
        refine ES_no rfl hg45 rfl rfl rfl rfl ?_
        refine ES_s rfl rfl rfl (os_pick_f' rfl hg45 rfl) ?_
        exact ES_fin 6 rfl rfl (by rw [hg45]; rfl)
    refine EP_s rfl rfl rfl rfl rfl (by exact (os_move rfl)) ?_
    refine EP_joint 6 58 (.bool (((((decide (((lo : Nat) : Int) ≤ ((m.Term : Nat) : Int))) && (decide ((-1) ≤ m.Vote))) && (decide (m.Vote < n))) && (decide (((m.Base : Nat) : Int) ≤ ((m.Commit : Nat) : Int)))) && (decide (((m.Commit : Nat) : Int) ≤ (((m.Base + m.Log.xs.length) : Nat) : Int))))) [23, 24, 25, 26, 27, 28] rfl rfl rfl ?_ ?_
    · skip
      refine ES_case ((((decide (((lo : Nat) : Int) ≤ ((m.Term : Nat) : Int))) && (decide ((-1) ≤ m.Vote))) && (decide (m.Vote < n))) && (decide (((m.Base : Nat) : Int) ≤ ((m.Commit : Nat) : Int)))) (fun hg52 => ?_) (fun hg52 => ?_)
      · have hg52_ := hg52
        try simp only [Bool.or_eq_true, Bool.and_eq_true, Bool.or_eq_false_iff, Bool.and_eq_false_iff, decide_eq_true_eq, decide_eq_false_iff_not, Bool.not_eq_true', Bool.not_eq_false', Int.natCast_inj, Int.ofNat_lt, Int.ofNat_le] at hg52_
        refine ES_yes (j := 22) (b := true) rfl rfl rfl hg52 rfl rfl (os_field rfl fl55_6) ?_
        refine ES_yes (j := 22) (b := true) rfl rfl rfl hg52 rfl rfl (os_load_one rfl one22 (cells_own own_head rfl)) ?_
        refine ES_yes (j := 22) (b := true) rfl rfl rfl hg52 rfl rfl (os_load_agg (cs := [_, _, _, _, _, _, _]) rfl agg55 (cells_own own_head rfl)) ?_
        refine ES_yes (j := 22) (b := true) rfl rfl rfl hg52 rfl rfl (os_call (vs := [(.agg (m.cells).toArray)]) body77 rfl (r_last hm (by omega))) ?_
        refine ES_yes (j := 22) (b := true) rfl rfl rfl hg52 rfl rfl (os_leq rfl rfl) ?_
        refine ES_s rfl rfl rfl (os_pick_t' rfl hg52 rfl) ?_
        exact ES_fin 6 rfl rfl (by rw [hg52]; rfl)
      · have hg52_ := hg52
        try simp only [Bool.or_eq_true, Bool.and_eq_true, Bool.or_eq_false_iff, Bool.and_eq_false_iff, decide_eq_true_eq, decide_eq_false_iff_not, Bool.not_eq_true', Bool.not_eq_false', Int.natCast_inj, Int.ofNat_lt, Int.ofNat_le] at hg52_
        refine ES_no rfl hg52 rfl rfl rfl rfl ?_
        refine ES_no rfl hg52 rfl rfl rfl rfl ?_
        refine ES_no rfl hg52 rfl rfl rfl rfl ?_
        refine ES_no rfl hg52 rfl rfl rfl rfl ?_
        refine ES_no rfl hg52 rfl rfl rfl rfl ?_
        refine ES_s rfl rfl rfl (os_pick_f' rfl hg52 rfl) ?_
        exact ES_fin 6 rfl rfl (by rw [hg52]; rfl)
    refine EP_s rfl rfl rfl rfl rfl (by exact (os_assign rfl)) ?_
    refine EP_nil ?_
    refine EQ_then (EQ_wp ?_)
    refine EW_ret ?_
    exact pc_ret1 Try.results20 (rv_tmp rfl) (.refl _) ((Incl.refl _).skip _) (by refine congrArg Value.bool ?_; rw [Bool.eq_iff_iff]; simp only [formB]; rw [show m.abs.BaseTerm = m.BaseTerm from rfl, show m.abs.Term = m.Term from rfl, hr, List.drop_eq_nil_of_le (by simp [RNode.abs]; omega)]; simp only [List.map_nil, risingP, Bool.and_eq_true, decide_eq_true_eq, Int.natCast_inj, Int.ofNat_lt, Int.ofNat_le]; simp only [RNode.abs, List.length_map]) (.inl rfl)


end Go.Proofs.Ytlhibbjnhdcffaa
