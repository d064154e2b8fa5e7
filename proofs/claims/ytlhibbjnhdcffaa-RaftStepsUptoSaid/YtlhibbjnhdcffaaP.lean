/- Proved here: the part P of the proof that the law of this seat returns true for every input; no condition. -/
import Derived.Test.YtlhibbjnhdcffaaN
set_option maxRecDepth 20000
set_option linter.unusedVariables false
set_option linter.unusedSimpArgs false
namespace Go.Proofs.Ytlhibbjnhdcffaa
open Go Go.Gl

/-- raft.State, with its slices' heads. -/
structure StateR where
  Term : Nat
  Vote : Int
  Base : Nat
  BaseTerm : Nat
  Entries : Sl Entry
/-- raft.State, plain. -/
structure StateRP where
  Term : Nat
  Vote : Int
  Base : Nat
  BaseTerm : Nat
  Entries : List EntryP
  deriving DecidableEq
def StateR.cells (x : StateR) : List Value := [.int .u64 (x.Term : Int), .int .i64 (x.Vote : Int), .int .u64 (x.Base : Int), .int .u64 (x.BaseTerm : Int), x.Entries.v]
def StateR.abs (x : StateR) : StateRP := ⟨x.Term, x.Vote, x.Base, x.BaseTerm, x.Entries.xs.map Entry.abs⟩
structure StateR.Ok (I : Gh) (x : StateR) : Prop where
  Term : x.Term ≤ 18446744073709551615
  Vote : -9223372036854775808 ≤ x.Vote ∧ x.Vote ≤ 9223372036854775807
  Base : x.Base ≤ 18446744073709551615
  BaseTerm : x.BaseTerm ≤ 18446744073709551615
  Entries : FRow rEntry I [] x.Entries
theorem StateR.Ok.mono {I J : Gh} {x : StateR} (h : x.Ok I) (hI : I.le J) : x.Ok J := ⟨h.Term, h.Vote, h.Base, h.BaseTerm, h.Entries.le hI⟩
def rStateR : Rep StateR := ⟨5, 56, StateR.cells, fun I x => x.Ok I, fun _ => rfl, fun h hI => h.mono hI, fun x v hv => by simp [StateR.cells] at hv; rcases hv with rfl | rfl | rfl | rfl | rfl <;> rfl, by decide⟩
namespace NodeP
theorem Few.grow {r : NodeP} (h : r.Few) (hl : r.Entries.length < 1000000000) (d : List UInt8) : (r.grow d).Few :=
  ⟨h.base, by simp only [NodeP.grow, List.length_append, List.length_cons, List.length_nil]; omega, h.term, h.id0, h.idn, h.n5, h.lim0, h.lim1, h.clk0, h.clk1, h.bt, by
    intro e he
    simp only [NodeP.grow, List.mem_append, List.mem_singleton] at he
    rcases he with he | rfl
    · exact h.trm e he
    · exact h.term, h.cmt⟩
theorem Few.add {r : NodeP} (h : r.Few) (hl : r.Entries.length < 1000000000) (d : List UInt8) : (r.add d).1.Few := (h.grow hl d).agree
def propose (r : NodeP) (d : List UInt8) : NodeP × Nat × List MsgP × Int := if r.role = 3 then ((r.add d).1, (r.add d).1.last, (r.add d).2, 0) else (r, 0, [], 14)
end NodeP
def newErr (id n limit : Int) (s : StateRP) : Int :=
  if n < 1 ∨ 5 < n ∨ id < 0 ∨ n ≤ id ∨ limit < 1 ∨ 1000 < limit then 1
  else if s.Vote < -1 ∨ n ≤ s.Vote ∨ risingP s.Entries s.BaseTerm s.Term = false ∨ 4611686018427387904 < s.Base ∨ 4611686018427387904 < s.Term then 3 else 0
def newNode (id n limit : Int) (s : StateRP) : NodeP := ⟨s.Term, s.Vote, s.Base, s.BaseTerm, s.Entries, id, n, limit, 0, -1, s.Base, 0, [], [], []⟩
theorem new_ok {id n limit : Int} {s : StateRP} (h : newErr id n limit s = 0) : (1 ≤ n ∧ n ≤ 5 ∧ 0 ≤ id ∧ id < n ∧ 1 ≤ limit ∧ limit ≤ 1000) ∧ -1 ≤ s.Vote ∧ s.Vote < n ∧ risingP s.Entries s.BaseTerm s.Term = true ∧ s.Base ≤ 4611686018427387904 ∧ s.Term ≤ 4611686018427387904 := by
  unfold newErr at h
  split at h
  · cases h
  · split at h
    · cases h
    · rename_i h1 h2
      simp only [not_or, Bool.not_eq_false, Int.not_lt, Int.not_le, Nat.not_lt] at h1 h2
      exact ⟨by omega, by omega, by omega, h2.2.2.1, by omega, by omega⟩
set_option maxHeartbeats 1000000 in
theorem n_Wants {I : Gh} {L : List Seg} {br : Nat} {r : NodeP} {Ssr : List Seg} (hr : NodeAt I br r Ssr) (hSsr : Incl Ssr L) {m : Msg} (hm : Msg.Ok I m) (hp0 : NodeP.Few r) : PC Try.prog 17 #[.pointer (some ⟨br, 0, none⟩), .agg (m.cells).toArray] I L fun K v => v = .bool (r.wants m.abs) := by
  obtain ⟨xr, Sra, Srb, Src, Srd, rfl, rfl, hora, horb, horc, hord⟩ := hr
  refine PC.of (n := 76) Try.func17 rfl Try.ntmps17 rfl fun I0 L0 hI0 hL0 => ?_
  have hora := hora.mono hI0
  have horb := horb.mono hI0
  have horc := horc.mono hI0
  have hord := hord.mono hI0
  have hLbr := hSsr.trans hL0
  have hm := hm.mono hI0
  have hf0 := hp0
  obtain ⟨hfb, hfl, hft, hid0, hidn, hn5, hlim0, hlim1, hclk0, hclk1, hbt, htrm, hcmt⟩ := hf0
  simp only [Node.abs, List.length_map] at hfb hfl hft hid0 hidn hn5 hlim0 hlim1 hclk0 hclk1 hbt htrm hcmt
  have hltm := NodeP.lastTerm_le hp0
  have hlast : NodeP.last xr.abs = xr.Base + xr.Entries.xs.length := by simp [NodeP.last, Node.abs]
  have hmt := hm.Term
  have hmf := hm.From
  refine EW_seq ?_
  -- region 0  raft.go:432
  refine EW_region ?_
  refine EL_a rfl rfl rfl (oa_box rfl) ?_
  intro b3
  refine EL_s rfl rfl rfl (os_assign rfl) ?_
  refine EL_nil ?_
  refine EQ_then (EQ_wp ?_)
  refine EW_seq ?_
  refine EW_seq ?_
  -- region 1 DRAWN  raft.go:433
  refine EW_drawC [] [⟨[], some 7, [0], .s, 0⟩, ⟨[], some 8, [3], .s, 0⟩, ⟨[0, 1], some 9, [7, 8], .s, 3⟩, ⟨[2], some 10, [9], .s, 7⟩, ⟨[3, 2], some 11, [10], .s, 15⟩, ⟨[4], some 12, [3, 11], .s, 31⟩, ⟨[5, 4], some 13, [12, 11], .s, 63⟩, ⟨[6, 4], some 14, [13, 11], .s, 127⟩, ⟨[4, 7], some 15, [11, 14], .s, 255⟩, ⟨[8, 4], some 16, [15], .s, 511⟩, ⟨[9], some 17, [3, 16], .s, 1023⟩, ⟨[10, 9], some 18, [17, 16], .s, 2047⟩, ⟨[9], some 19, [0, 16], .s, 1023⟩, ⟨[12, 9], some 20, [19, 16], .s, 5119⟩, ⟨[13, 9], some 21, [20, 16], .s, 13311⟩, ⟨[14, 9], some 22, [21, 16], .s, 29695⟩, ⟨[15, 9], some 23, [22, 16], .s, 62463⟩, ⟨[16, 9], some 24, [23, 16], .s, 127999⟩, ⟨[11, 17, 9], some 25, [18, 24, 16], .s, 262143⟩, ⟨[9, 18], some 26, [16, 25], .s, 524287⟩, ⟨[19, 9], some 27, [26], .s, 1048575⟩, ⟨[20], some 28, [3, 27], .s, 2097151⟩, ⟨[21, 20], some 29, [28, 27], .s, 4194303⟩, ⟨[20], some 30, [0, 27], .s, 2097151⟩, ⟨[23, 20], some 31, [30, 27], .s, 10485759⟩, ⟨[24, 20], some 32, [31, 27], .s, 27262975⟩, ⟨[25, 20], some 33, [32, 27], .s, 60817407⟩, ⟨[26, 20], some 34, [33, 27], .s, 127926271⟩, ⟨[27, 20], some 35, [34, 27], .s, 262143999⟩, ⟨[22, 28, 20], some 36, [29, 35, 27], .s, 536870911⟩, ⟨[29, 20, 20], some 37, [36, 27], .s, 1073741823⟩, ⟨[30], some 38, [0, 37], .s, 2147483647⟩, ⟨[31, 30], some 39, [38, 37], .s, 4294967295⟩, ⟨[32, 30], some 40, [39, 37], .s, 8589934591⟩, ⟨[33, 30], some 41, [40, 37], .s, 17179869183⟩, ⟨[34, 30], some 42, [41, 37], .s, 34359738367⟩, ⟨[30, 35, 20], some 43, [37, 42, 27], .s, 68719476735⟩, ⟨[20, 36], some 44, [27, 43], .s, 137438953471⟩, ⟨[37, 30], some 45, [44], .s, 274877906943⟩, ⟨[38], some 46, [3, 45], .s, 549755813887⟩, ⟨[39, 38], some 47, [46, 45], .s, 1099511627775⟩, ⟨[38], some 48, [0, 45], .s, 549755813887⟩, ⟨[41, 38], some 49, [48, 45], .s, 2748779069439⟩, ⟨[42, 38], some 50, [49, 45], .s, 7146825580543⟩, ⟨[43, 38], some 51, [50, 45], .s, 15942918602751⟩, ⟨[40, 44, 38], some 52, [47, 51, 45], .s, 35184372088831⟩, ⟨[38, 45], some 53, [45, 52], .s, 70368744177663⟩, ⟨[46, 38], some 54, [53], .s, 140737488355327⟩, ⟨[47], some 55, [3, 54], .s, 281474976710655⟩, ⟨[48, 47], some 56, [55, 54], .s, 562949953421311⟩, ⟨[47], some 57, [3, 54], .s, 281474976710655⟩, ⟨[50, 47], some 58, [57, 54], .s, 1407374883553279⟩, ⟨[49, 51, 47], some 59, [56, 58, 54], .s, 4503599627370495⟩, ⟨[47, 52], some 60, [54, 59], .s, 9007199254740991⟩] [.s, .s, .s, .s, .s, .s, .s, .s, .s, .s, .s, .s, .s, .s, .s, .s, .s, .s, .s, .s, .s, .s, .s, .s, .s, .s, .s, .s, .s, .s, .s, .s, .s, .s, .s, .s, .s, .s, .s, .s, .s, .s, .s, .s, .s, .s, .s, .s, .s, .s, .s, .s, .s, .s] [0, 1, 2, 3, 4, 5, 6, 7, 8, 9, 10, 11, 12, 13, 14, 15, 16, 17, 18, 19, 20, 21, 22, 23, 24, 25, 26, 27, 28, 29, 30, 31, 32, 33, 34, 35, 36, 37, 38, 39, 40, 41, 42, 43, 44, 45, 46, 47, 48, 49, 50, 51, 52, 53] mixed (by kernel_rfl) (by kernel_rfl) (by kernel_rfl) rfl rfl ?_
  refine EP_s rfl rfl rfl rfl rfl (by exact (os_move rfl)) ?_
  refine EP_s rfl rfl rfl rfl rfl (by exact (os_load_agg (cs := [_, _, _, _, _, _, _, _, _, _]) rfl agg41 (cells_own own_head rfl))) ?_
  refine EP_s rfl rfl rfl rfl rfl (by exact (os_call (vs := [(.pointer (some ⟨br, 0, none⟩)), (.agg (m.cells).toArray)]) body65 rfl (n_proper (NodeAt.intro xr hora horb horc hord) (hLbr.skip _) hm))) ?_
  refine EP_s rfl rfl rfl rfl rfl (by exact (os_not rfl)) ?_
  refine EP_s rfl rfl rfl rfl rfl (by exact (os_move rfl)) ?_
  refine EP_joint 4 15 (.bool ((!((xr.abs).proper m.abs)) || (!decide (m.Kind = 7)))) [5, 6, 7, 8] rfl rfl rfl ?_ ?_
  · skip
    refine ES_case (!((xr.abs).proper m.abs)) (fun hg11 => ?_) (fun hg11 => ?_)
    · have hg11_ := hg11
      try simp only [Bool.or_eq_true, Bool.and_eq_true, Bool.or_eq_false_iff, Bool.and_eq_false_iff, decide_eq_true_eq, decide_eq_false_iff_not, Bool.not_eq_true', Bool.not_eq_false', Int.natCast_inj, Int.ofNat_lt, Int.ofNat_le] at hg11_
      refine ES_no rfl hg11 rfl rfl rfl rfl ?_
      refine ES_no rfl hg11 rfl rfl rfl rfl ?_
      refine ES_no rfl hg11 rfl rfl rfl rfl ?_
      refine ES_s rfl rfl rfl (os_pick_t' rfl hg11 rfl) ?_
      exact ES_fin 4 rfl rfl (by rw [hg11]; rfl)
    · have hg11_ := hg11
      try simp only [Bool.or_eq_true, Bool.and_eq_true, Bool.or_eq_false_iff, Bool.and_eq_false_iff, decide_eq_true_eq, decide_eq_false_iff_not, Bool.not_eq_true', Bool.not_eq_false', Int.natCast_inj, Int.ofNat_lt, Int.ofNat_le] at hg11_
      refine ES_yes (j := 4) (b := false) rfl rfl rfl hg11 rfl rfl (os_field rfl fl41_0) ?_
      refine ES_yes (j := 4) (b := false) rfl rfl rfl hg11 rfl rfl (os_load_one rfl one3 (cells_own own_head rfl)) ?_
      refine ES_yes (j := 4) (b := false) rfl rfl rfl hg11 rfl rfl (os_neq rfl rfl) ?_
      refine ES_s rfl rfl rfl (os_pick_f' rfl hg11 rfl) ?_
      exact ES_fin 4 rfl rfl (by rw [hg11]; rfl)
  refine EP_s rfl rfl rfl rfl rfl (by exact (os_move rfl)) ?_
  refine EP_joint 10 26 (.bool (((!((xr.abs).proper m.abs)) || (!decide (m.Kind = 7))) || (decide (((m.Term : Nat) : Int) < ((xr.Term : Nat) : Int))))) [10, 11, 12, 13, 14, 15, 16, 17, 18, 19] rfl rfl rfl ?_ ?_
  · skip
    refine ES_case ((!((xr.abs).proper m.abs)) || (!decide (m.Kind = 7))) (fun hg16 => ?_) (fun hg16 => ?_)
    · have hg16_ := hg16
      try simp only [Bool.or_eq_true, Bool.and_eq_true, Bool.or_eq_false_iff, Bool.and_eq_false_iff, decide_eq_true_eq, decide_eq_false_iff_not, Bool.not_eq_true', Bool.not_eq_false', Int.natCast_inj, Int.ofNat_lt, Int.ofNat_le] at hg16_
      refine ES_no rfl hg16 rfl rfl rfl rfl ?_
      refine ES_no rfl hg16 rfl rfl rfl rfl ?_
      refine ES_no rfl hg16 rfl rfl rfl rfl ?_
      refine ES_no rfl hg16 rfl rfl rfl rfl ?_
      refine ES_no rfl hg16 rfl rfl rfl rfl ?_
      refine ES_no rfl hg16 rfl rfl rfl rfl ?_
      refine ES_no rfl hg16 rfl rfl rfl rfl ?_
      refine ES_no rfl hg16 rfl rfl rfl rfl ?_
      refine ES_no rfl hg16 rfl rfl rfl rfl ?_
      refine ES_s rfl rfl rfl (os_pick_t' rfl hg16 rfl) ?_
      exact ES_fin 10 rfl rfl (by rw [hg16]; rfl)
    · have hg16_ := hg16
      try simp only [Bool.or_eq_true, Bool.and_eq_true, Bool.or_eq_false_iff, Bool.and_eq_false_iff, decide_eq_true_eq, decide_eq_false_iff_not, Bool.not_eq_true', Bool.not_eq_false', Int.natCast_inj, Int.ofNat_lt, Int.ofNat_le] at hg16_
      refine ES_yes (j := 9) (b := false) rfl rfl rfl hg16 rfl rfl (os_field rfl fl41_3) ?_
      refine ES_yes (j := 9) (b := false) rfl rfl rfl hg16 rfl rfl (os_load_one rfl one22 (cells_own own_head rfl)) ?_
      refine ES_yes (j := 9) (b := false) rfl rfl rfl hg16 rfl rfl (os_move rfl) ?_
      refine ES_yes (j := 9) (b := false) rfl rfl rfl hg16 rfl rfl (os_nilCheck rfl) ?_
      refine ES_yes (j := 9) (b := false) rfl rfl rfl hg16 rfl rfl (os_field rfl fl47_0) ?_
      refine ES_yes (j := 9) (b := false) rfl rfl rfl hg16 rfl rfl (os_field rfl fl36_0) ?_
      refine ES_yes (j := 9) (b := false) rfl rfl rfl hg16 rfl rfl (os_field rfl fl33_0) ?_
      refine ES_yes (j := 9) (b := false) rfl rfl rfl hg16 rfl rfl (os_load_one rfl one22 (cells_own (own_tail (hLbr.mem own_head)) rfl)) ?_
      refine ES_yes (j := 9) (b := false) rfl rfl rfl hg16 rfl rfl (os_lss rfl rfl) ?_
      refine ES_s rfl rfl rfl (os_pick_f' rfl hg16 rfl) ?_
      exact ES_fin 10 rfl rfl (by rw [hg16]; rfl)
  refine EP_s rfl rfl rfl rfl rfl (by exact (os_move rfl)) ?_
  refine EP_joint 17 44 (.bool ((((!((xr.abs).proper m.abs)) || (!decide (m.Kind = 7))) || (decide (((m.Term : Nat) : Int) < ((xr.Term : Nat) : Int)))) || ((decide (((m.Term : Nat) : Int) = ((xr.Term : Nat) : Int))) && (decide (xr.role = 3))))) [21, 22, 23, 24, 25, 26, 27, 28, 29, 30, 31, 32, 33, 34, 35, 36, 37] rfl rfl rfl ?_ ?_
  · skip
    refine ES_case (((!((xr.abs).proper m.abs)) || (!decide (m.Kind = 7))) || (decide (((m.Term : Nat) : Int) < ((xr.Term : Nat) : Int)))) (fun hg27 => ?_) (fun hg27 => ?_)
    · have hg27_ := hg27
      try simp only [Bool.or_eq_true, Bool.and_eq_true, Bool.or_eq_false_iff, Bool.and_eq_false_iff, decide_eq_true_eq, decide_eq_false_iff_not, Bool.not_eq_true', Bool.not_eq_false', Int.natCast_inj, Int.ofNat_lt, Int.ofNat_le] at hg27_
      refine ES_no rfl hg27 rfl rfl rfl rfl ?_
      refine ES_no rfl hg27 rfl rfl rfl rfl ?_
      refine ES_no rfl hg27 rfl rfl rfl rfl ?_
      refine ES_no rfl hg27 rfl rfl rfl rfl ?_
      refine ES_no rfl hg27 rfl rfl rfl rfl ?_
      refine ES_no rfl hg27 rfl rfl rfl rfl ?_
      refine ES_no rfl hg27 rfl rfl rfl rfl ?_
      refine ES_no rfl hg27 rfl rfl rfl rfl ?_
      refine ES_no rfl hg27 rfl rfl rfl rfl ?_
      refine ES_no rfl hg27 rfl rfl rfl rfl ?_
      refine ES_nou rfl rfl rfl rfl rfl ?_
      refine ES_nou rfl rfl rfl rfl rfl ?_
      refine ES_nou rfl rfl rfl rfl rfl ?_
      refine ES_nou rfl rfl rfl rfl rfl ?_
      refine ES_nou rfl rfl rfl rfl rfl ?_
      refine ES_no rfl hg27 rfl rfl rfl rfl ?_
      refine ES_s rfl rfl rfl (os_pick_t' rfl hg27 rfl) ?_
      exact ES_fin 17 rfl rfl (by rw [hg27]; rfl)
    · have hg27_ := hg27
      try simp only [Bool.or_eq_true, Bool.and_eq_true, Bool.or_eq_false_iff, Bool.and_eq_false_iff, decide_eq_true_eq, decide_eq_false_iff_not, Bool.not_eq_true', Bool.not_eq_false', Int.natCast_inj, Int.ofNat_lt, Int.ofNat_le] at hg27_
      refine ES_yes (j := 20) (b := false) rfl rfl rfl hg27 rfl rfl (os_field rfl fl41_3) ?_
      refine ES_yes (j := 20) (b := false) rfl rfl rfl hg27 rfl rfl (os_load_one rfl one22 (cells_own own_head rfl)) ?_
      refine ES_yes (j := 20) (b := false) rfl rfl rfl hg27 rfl rfl (os_move rfl) ?_
      refine ES_yes (j := 20) (b := false) rfl rfl rfl hg27 rfl rfl (os_nilCheck rfl) ?_
      refine ES_yes (j := 20) (b := false) rfl rfl rfl hg27 rfl rfl (os_field rfl fl47_0) ?_
      refine ES_yes (j := 20) (b := false) rfl rfl rfl hg27 rfl rfl (os_field rfl fl36_0) ?_
      refine ES_yes (j := 20) (b := false) rfl rfl rfl hg27 rfl rfl (os_field rfl fl33_0) ?_
      refine ES_yes (j := 20) (b := false) rfl rfl rfl hg27 rfl rfl (os_load_one rfl one22 (cells_own (own_tail (hLbr.mem own_head)) rfl)) ?_
      refine ES_yes (j := 20) (b := false) rfl rfl rfl hg27 rfl rfl (os_eql rfl rfl) ?_
      refine ES_yes (j := 20) (b := false) rfl rfl rfl hg27 rfl rfl (os_move rfl) ?_
      refine ES_case (decide (((m.Term : Nat) : Int) = ((xr.Term : Nat) : Int))) (fun hg37 => ?_) (fun hg37 => ?_)
      · have hg37_ := hg37
        try simp only [Bool.or_eq_true, Bool.and_eq_true, Bool.or_eq_false_iff, Bool.and_eq_false_iff, decide_eq_true_eq, decide_eq_false_iff_not, Bool.not_eq_true', Bool.not_eq_false', Int.natCast_inj, Int.ofNat_lt, Int.ofNat_le] at hg37_
        refine ES_yes (j := 30) (b := true) rfl rfl rfl hg37 rfl rfl (os_move rfl) ?_
        refine ES_yes (j := 30) (b := true) rfl rfl rfl hg37 rfl rfl (os_nilCheck rfl) ?_
        refine ES_yes (j := 30) (b := true) rfl rfl rfl hg37 rfl rfl (os_field rfl fl47_4) ?_
        refine ES_yes (j := 30) (b := true) rfl rfl rfl hg37 rfl rfl (os_load_one rfl one3 (cells_own (own_tail (hLbr.mem own_head)) rfl)) ?_
        refine ES_yes (j := 30) (b := true) rfl rfl rfl hg37 rfl rfl (os_eql rfl rfl) ?_
        refine ES_yes (j := 20) (b := false) rfl rfl rfl hg27 rfl rfl (os_pick_t' rfl hg37 rfl) ?_
        refine ES_s rfl rfl rfl (os_pick_f' rfl hg27 rfl) ?_
        exact ES_fin 17 rfl rfl (by rw [hg27, hg37]; rfl)
      · have hg37_ := hg37
        try simp only [Bool.or_eq_true, Bool.and_eq_true, Bool.or_eq_false_iff, Bool.and_eq_false_iff, decide_eq_true_eq, decide_eq_false_iff_not, Bool.not_eq_true', Bool.not_eq_false', Int.natCast_inj, Int.ofNat_lt, Int.ofNat_le] at hg37_
        refine ES_no rfl hg37 rfl rfl rfl rfl ?_
        refine ES_no rfl hg37 rfl rfl rfl rfl ?_
        refine ES_no rfl hg37 rfl rfl rfl rfl ?_
        refine ES_no rfl hg37 rfl rfl rfl rfl ?_
        refine ES_no rfl hg37 rfl rfl rfl rfl ?_
        refine ES_yes (j := 20) (b := false) rfl rfl rfl hg27 rfl rfl (os_pick_f' rfl hg37 rfl) ?_
        refine ES_s rfl rfl rfl (os_pick_f' rfl hg27 rfl) ?_
        exact ES_fin 17 rfl rfl (by rw [hg27, hg37]; rfl)
  refine EP_s rfl rfl rfl rfl rfl (by exact (os_move rfl)) ?_
  refine EP_joint 8 53 (.bool (((((!((xr.abs).proper m.abs)) || (!decide (m.Kind = 7))) || (decide (((m.Term : Nat) : Int) < ((xr.Term : Nat) : Int)))) || ((decide (((m.Term : Nat) : Int) = ((xr.Term : Nat) : Int))) && (decide (xr.role = 3)))) || (decide (((m.Index : Nat) : Int) ≤ ((xr.commit : Nat) : Int))))) [39, 40, 41, 42, 43, 44, 45, 46] rfl rfl rfl ?_ ?_
  · skip
    refine ES_case ((((!((xr.abs).proper m.abs)) || (!decide (m.Kind = 7))) || (decide (((m.Term : Nat) : Int) < ((xr.Term : Nat) : Int)))) || ((decide (((m.Term : Nat) : Int) = ((xr.Term : Nat) : Int))) && (decide (xr.role = 3)))) (fun hg45 => ?_) (fun hg45 => ?_)
    · have hg45_ := hg45
      try simp only [Bool.or_eq_true, Bool.and_eq_true, Bool.or_eq_false_iff, Bool.and_eq_false_iff, decide_eq_true_eq, decide_eq_false_iff_not, Bool.not_eq_true', Bool.not_eq_false', Int.natCast_inj, Int.ofNat_lt, Int.ofNat_le] at hg45_
      refine ES_no rfl hg45 rfl rfl rfl rfl ?_
      refine ES_no rfl hg45 rfl rfl rfl rfl ?_
      refine ES_no rfl hg45 rfl rfl rfl rfl ?_
      refine ES_no rfl hg45 rfl rfl rfl rfl ?_
      refine ES_no rfl hg45 rfl rfl rfl rfl ?_
      refine ES_no rfl hg45 rfl rfl rfl rfl ?_
      refine ES_no rfl hg45 rfl rfl rfl rfl ?_
      refine ES_s rfl rfl rfl (os_pick_t' rfl hg45 rfl) ?_
      exact ES_fin 8 rfl rfl (by rw [hg45]; rfl)
    · have hg45_ := hg45
      try simp only [Bool.or_eq_true, Bool.and_eq_true, Bool.or_eq_false_iff, Bool.and_eq_false_iff, decide_eq_true_eq, decide_eq_false_iff_not, Bool.not_eq_true', Bool.not_eq_false', Int.natCast_inj, Int.ofNat_lt, Int.ofNat_le] at hg45_
      refine ES_yes (j := 38) (b := false) rfl rfl rfl hg45 rfl rfl (os_field rfl fl41_4) ?_
      refine ES_yes (j := 38) (b := false) rfl rfl rfl hg45 rfl rfl (os_load_one rfl one22 (cells_own own_head rfl)) ?_
      refine ES_yes (j := 38) (b := false) rfl rfl rfl hg45 rfl rfl (os_move rfl) ?_
      refine ES_yes (j := 38) (b := false) rfl rfl rfl hg45 rfl rfl (os_nilCheck rfl) ?_
      refine ES_yes (j := 38) (b := false) rfl rfl rfl hg45 rfl rfl (os_field rfl fl47_6) ?_
      refine ES_yes (j := 38) (b := false) rfl rfl rfl hg45 rfl rfl (os_load_one rfl one22 (cells_own (own_tail (hLbr.mem own_head)) rfl)) ?_
      refine ES_yes (j := 38) (b := false) rfl rfl rfl hg45 rfl rfl (os_leq rfl rfl) ?_
      refine ES_s rfl rfl rfl (os_pick_f' rfl hg45 rfl) ?_
      exact ES_fin 8 rfl rfl (by rw [hg45]; rfl)
  refine EP_s rfl rfl rfl rfl rfl (by exact (os_move rfl)) ?_
  refine EP_joint 6 60 (.bool ((((((!((xr.abs).proper m.abs)) || (!decide (m.Kind = 7))) || (decide (((m.Term : Nat) : Int) < ((xr.Term : Nat) : Int)))) || ((decide (((m.Term : Nat) : Int) = ((xr.Term : Nat) : Int))) && (decide (xr.role = 3)))) || (decide (((m.Index : Nat) : Int) ≤ ((xr.commit : Nat) : Int)))) || (decide (((m.Term : Nat) : Int) < ((m.LogTerm : Nat) : Int))))) [48, 49, 50, 51, 52, 53] rfl rfl rfl ?_ ?_
  · skip
    refine ES_case (((((!((xr.abs).proper m.abs)) || (!decide (m.Kind = 7))) || (decide (((m.Term : Nat) : Int) < ((xr.Term : Nat) : Int)))) || ((decide (((m.Term : Nat) : Int) = ((xr.Term : Nat) : Int))) && (decide (xr.role = 3)))) || (decide (((m.Index : Nat) : Int) ≤ ((xr.commit : Nat) : Int)))) (fun hg54 => ?_) (fun hg54 => ?_)
    · have hg54_ := hg54
      try simp only [Bool.or_eq_true, Bool.and_eq_true, Bool.or_eq_false_iff, Bool.and_eq_false_iff, decide_eq_true_eq, decide_eq_false_iff_not, Bool.not_eq_true', Bool.not_eq_false', Int.natCast_inj, Int.ofNat_lt, Int.ofNat_le] at hg54_
      refine ES_no rfl hg54 rfl rfl rfl rfl ?_
      refine ES_no rfl hg54 rfl rfl rfl rfl ?_
      refine ES_no rfl hg54 rfl rfl rfl rfl ?_
      refine ES_no rfl hg54 rfl rfl rfl rfl ?_
      refine ES_no rfl hg54 rfl rfl rfl rfl ?_
      refine ES_s rfl rfl rfl (os_pick_t' rfl hg54 rfl) ?_
      exact ES_fin 6 rfl rfl (by rw [hg54]; rfl)
    · have hg54_ := hg54
      try simp only [Bool.or_eq_true, Bool.and_eq_true, Bool.or_eq_false_iff, Bool.and_eq_false_iff, decide_eq_true_eq, decide_eq_false_iff_not, Bool.not_eq_true', Bool.not_eq_false', Int.natCast_inj, Int.ofNat_lt, Int.ofNat_le] at hg54_
      refine ES_yes (j := 47) (b := false) rfl rfl rfl hg54 rfl rfl (os_field rfl fl41_5) ?_
      refine ES_yes (j := 47) (b := false) rfl rfl rfl hg54 rfl rfl (os_load_one rfl one22 (cells_own own_head rfl)) ?_
      refine ES_yes (j := 47) (b := false) rfl rfl rfl hg54 rfl rfl (os_field rfl fl41_3) ?_
      refine ES_yes (j := 47) (b := false) rfl rfl rfl hg54 rfl rfl (os_load_one rfl one22 (cells_own own_head rfl)) ?_
      refine ES_yes (j := 47) (b := false) rfl rfl rfl hg54 rfl rfl (os_gtr rfl rfl) ?_
      refine ES_s rfl rfl rfl (os_pick_f' rfl hg54 rfl) ?_
      exact ES_fin 6 rfl rfl (by rw [hg54]; rfl)
  refine EP_nil ?_
  refine EQ_then (EQ_wp ?_)
  refine EW_cond rfl (fun hc60 => ?_) (fun hc60 => ?_)
  · have hb60 := hc60
    try simp only [Bool.or_eq_true, Bool.and_eq_true, Bool.or_eq_false_iff, Bool.and_eq_false_iff, decide_eq_true_eq, decide_eq_false_iff_not, Bool.not_eq_true', Bool.not_eq_false', Int.natCast_inj, Int.ofNat_lt, Int.ofNat_le] at hc60
    refine EW_seq ?_
    -- region 2  raft.go:434
    refine EW_region ?_
    have hgq : ((((((!((xr.abs).proper m.abs)) || (!decide (m.Kind = 7))) || (decide (((m.Term : Nat) : Int) < ((xr.Term : Nat) : Int)))) || ((decide (((m.Term : Nat) : Int) = ((xr.Term : Nat) : Int))) && (decide (xr.role = 3)))) || (decide (((m.Index : Nat) : Int) ≤ ((xr.commit : Nat) : Int)))) || (decide (((m.Term : Nat) : Int) < ((m.LogTerm : Nat) : Int)))) = (!xr.abs.proper m.abs || !decide (m.abs.Kind = 7) || decide (m.abs.Term < xr.abs.Term) || (decide (m.abs.Term = xr.abs.Term) && decide (xr.abs.role = 3)) || decide (m.abs.Index ≤ xr.abs.commit) || decide (m.abs.Term < m.abs.LogTerm)) := by rw [Bool.eq_iff_iff]; simp only [Bool.and_eq_true, Bool.or_eq_true, decide_eq_true_eq, Int.natCast_inj, Int.ofNat_lt, Int.ofNat_le, Bool.not_eq_true', decide_eq_false_iff_not]; exact Iff.rfl
    rw [hgq] at hb60
    refine EL_s rfl rfl rfl (os_assign rfl) ?_
    refine EL_nil ?_
    refine EQ_then (EQ_wp ?_)
    refine EW_ret ?_
    refine EQ_then_ret (?_)
    exact pc_ret1 Try.results17 (rv_tmp rfl) (.refl _) ((Incl.refl _).skip _) (by refine congrArg Value.bool ?_; symm; show (!(!xr.abs.proper m.abs || !decide (m.abs.Kind = 7) || decide (m.abs.Term < xr.abs.Term) || (decide (m.abs.Term = xr.abs.Term) && decide (xr.abs.role = 3)) || decide (m.abs.Index ≤ xr.abs.commit) || decide (m.abs.Term < m.abs.LogTerm)) && _) = false; rw [hb60]; rfl) (.inl rfl)
  · have hb60 := hc60
    try simp only [Bool.or_eq_true, Bool.and_eq_true, Bool.or_eq_false_iff, Bool.and_eq_false_iff, decide_eq_true_eq, decide_eq_false_iff_not, Bool.not_eq_true', Bool.not_eq_false', Int.natCast_inj, Int.ofNat_lt, Int.ofNat_le] at hc60
    refine EW_skip ?_
    refine EQ_then (EQ_wp ?_)
    refine EW_seq ?_
    -- region 3  raft.go:436
    refine EW_region ?_
    have hgq : ((((((!((xr.abs).proper m.abs)) || (!decide (m.Kind = 7))) || (decide (((m.Term : Nat) : Int) < ((xr.Term : Nat) : Int)))) || ((decide (((m.Term : Nat) : Int) = ((xr.Term : Nat) : Int))) && (decide (xr.role = 3)))) || (decide (((m.Index : Nat) : Int) ≤ ((xr.commit : Nat) : Int)))) || (decide (((m.Term : Nat) : Int) < ((m.LogTerm : Nat) : Int)))) = (!xr.abs.proper m.abs || !decide (m.abs.Kind = 7) || decide (m.abs.Term < xr.abs.Term) || (decide (m.abs.Term = xr.abs.Term) && decide (xr.abs.role = 3)) || decide (m.abs.Index ≤ xr.abs.commit) || decide (m.abs.Term < m.abs.LogTerm)) := by rw [Bool.eq_iff_iff]; simp only [Bool.and_eq_true, Bool.or_eq_true, decide_eq_true_eq, Int.natCast_inj, Int.ofNat_lt, Int.ofNat_le, Bool.not_eq_true', decide_eq_false_iff_not]; exact Iff.rfl
    rw [hgq] at hb60
    refine EL_s rfl rfl rfl (os_move rfl) ?_
    refine EL_s rfl rfl rfl (os_field rfl fl41_4) ?_
    refine EL_s rfl rfl rfl (os_load_one rfl one22 (cells_own own_head rfl)) ?_
    refine EL_s rfl rfl rfl (os_call (vs := [(.pointer (some ⟨br, 0, none⟩)), (.int .u64 ((m.Index : Nat) : Int))]) body23 rfl (n_TermAt (NodeAt.intro xr hora horb horc hord) (hLbr.skip _) m.Index (by assumption))) ?_
    refine EL_s rfl rfl rfl (os_move rfl) ?_
    refine EL_s rfl rfl rfl (os_extract rfl rfl) ?_
    refine EL_s rfl rfl rfl (os_extract rfl rfl) ?_
    refine EL_s rfl rfl rfl (os_assign rfl) ?_
    refine EL_s rfl rfl rfl (os_assign rfl) ?_
    refine EL_nil ?_
    refine EQ_then (EQ_wp ?_)
    refine EW_seq ?_
    -- region 4  raft.go:437
    refine EW_region ?_
    refine EL_s rfl rfl rfl (os_move rfl) ?_
    refine EL_s rfl rfl rfl (os_not rfl) ?_
    refine EL_s rfl rfl rfl (os_move rfl) ?_
    refine EL_joint 5 75 (.bool ((!(((xr.abs).termAt m.Index).isSome)) || (!decide ((((((xr.abs).termAt m.Index).getD 0) : Nat) : Int) = ((m.LogTerm : Nat) : Int))))) ?_ ?_
    · skip
      refine ES_case (!(((xr.abs).termAt m.Index).isSome)) (fun hg70 => ?_) (fun hg70 => ?_)
      · have hg70_ := hg70
        try simp only [Bool.or_eq_true, Bool.and_eq_true, Bool.or_eq_false_iff, Bool.and_eq_false_iff, decide_eq_true_eq, decide_eq_false_iff_not, Bool.not_eq_true', Bool.not_eq_false', Int.natCast_inj, Int.ofNat_lt, Int.ofNat_le] at hg70_
        refine ES_no rfl hg70 rfl rfl rfl rfl ?_
        refine ES_no rfl hg70 rfl rfl rfl rfl ?_
        refine ES_no rfl hg70 rfl rfl rfl rfl ?_
        refine ES_no rfl hg70 rfl rfl rfl rfl ?_
        refine ES_s rfl rfl rfl (os_pick_t' rfl hg70 rfl) ?_
        exact ES_fin 5 rfl rfl (by rw [hg70]; rfl)
      · have hg70_ := hg70
        try simp only [Bool.or_eq_true, Bool.and_eq_true, Bool.or_eq_false_iff, Bool.and_eq_false_iff, decide_eq_true_eq, decide_eq_false_iff_not, Bool.not_eq_true', Bool.not_eq_false', Int.natCast_inj, Int.ofNat_lt, Int.ofNat_le] at hg70_
        refine ES_yes (j := 2) (b := false) rfl rfl rfl hg70 rfl rfl (os_move rfl) ?_
        refine ES_yes (j := 2) (b := false) rfl rfl rfl hg70 rfl rfl (os_field rfl fl41_5) ?_
        refine ES_yes (j := 2) (b := false) rfl rfl rfl hg70 rfl rfl (os_load_one rfl one22 (cells_own own_head rfl)) ?_
        refine ES_yes (j := 2) (b := false) rfl rfl rfl hg70 rfl rfl (os_neq rfl rfl) ?_
        refine ES_s rfl rfl rfl (os_pick_f' rfl hg70 rfl) ?_
        exact ES_fin 5 rfl rfl (by rw [hg70]; rfl)
    refine EL_s rfl rfl rfl (os_assign rfl) ?_
    refine EL_nil ?_
    refine EQ_then (EQ_wp ?_)
    refine EW_ret ?_
    exact pc_ret1 Try.results17 (rv_tmp rfl) (.refl _) ((Incl.refl _).skip _) (by refine congrArg Value.bool ?_; show _ = (!(!xr.abs.proper m.abs || !decide (m.abs.Kind = 7) || decide (m.abs.Term < xr.abs.Term) || (decide (m.abs.Term = xr.abs.Term) && decide (xr.abs.role = 3)) || decide (m.abs.Index ≤ xr.abs.commit) || decide (m.abs.Term < m.abs.LogTerm)) && !decide (xr.abs.termAt m.Index = some m.LogTerm)); rw [hb60]; cases xr.abs.termAt m.Index <;> simp [Int.natCast_inj]) (.inl rfl)

theorem n_Propose {I : Gh} {L : List Seg} {br : Nat} {r : NodeP} {Ssr : List Seg} (hr : NodeAt I br r Ssr) {data : Sl UInt8} (hdata : FRow rByte I L data) (hp0 : NodeP.Few r) (hp1 : r.Entries.length < 1000000000) (hp2 : r.role = 3 → (r.match_.length : Int) = r.n) (hp3 : r.role = 3 → (r.next.length : Int) = r.n) : PN Try.prog 31 #[.pointer (some ⟨br, 0, none⟩), data.v] I L (Ssr) fun K Ss' v => NodeAt K br ((r.propose data.xs).1) Ss' ∧ (∃ (y0 : Sl Msg), v = .tuple #[.int .u64 (((r.propose data.xs).2.1 : Nat) : Int), y0.v, .int .i64 ((r.propose data.xs).2.2.2)] ∧ FRow rMsg K [] y0 ∧ y0.xs.map Msg.abs = (r.propose data.xs).2.2.1) := by
  obtain ⟨xr, Sra, Srb, Src, Srd, rfl, rfl, hora, horb, horc, hord⟩ := hr
  refine PN.of (n := 19) Try.func31 rfl Try.ntmps31 rfl fun I0 L0 hI0 hL0 => ?_
  refine EW_perm (nm_5 _ _ _ _ _ _) ?_
  have hora := hora.mono hI0
  have horb := horb.mono hI0
  have horc := horc.mono hI0
  have hord := hord.mono hI0
  have hdata := FRow.mono hdata hI0 hL0
  have hl_data := FRow.len hdata
  have hf_data := hdata.few
  simp only [rByte] at hf_data
  have hf0 := hp0
  obtain ⟨hfb, hfl, hft, hid0, hidn, hn5, hlim0, hlim1, hclk0, hclk1, hbt, htrm, hcmt⟩ := hf0
  simp only [Node.abs, List.length_map] at hfb hfl hft hid0 hidn hn5 hlim0 hlim1 hclk0 hclk1 hbt htrm hcmt
  have hltm := NodeP.lastTerm_le hp0
  have hlast : NodeP.last xr.abs = xr.Base + xr.Entries.xs.length := by simp [NodeP.last, Node.abs]
  simp only [Node.abs, List.length_map] at hp1
  simp only [Node.abs] at hp2 hp3
  refine EW_seq ?_
  -- region 0  raft.go:423
  refine EW_region ?_
  refine EL_s rfl rfl rfl (os_assign rfl) ?_
  refine EL_s rfl rfl rfl (os_assign rfl) ?_
  refine EL_s rfl rfl rfl (os_assign rfl) ?_
  refine EL_nil ?_
  refine EQ_then (EQ_wp ?_)
  refine EW_seq ?_
  refine EW_seq ?_
  -- region 1  raft.go:424
  refine EW_region ?_
  refine EL_s rfl rfl rfl (os_move rfl) ?_
  refine EL_s rfl rfl rfl (os_nilCheck rfl) ?_
  refine EL_s rfl rfl rfl (os_field rfl fl47_4) ?_
  refine EL_s rfl rfl rfl (os_load_one rfl one3 (cells_own own_head rfl)) ?_
  refine EL_s rfl rfl rfl (os_neq rfl rfl) ?_
  refine EL_nil ?_
  refine EQ_then (EQ_wp ?_)
  refine EW_cond rfl (fun hc12 => ?_) (fun hc12 => ?_)
  · have hb12 := hc12
    try simp only [Bool.or_eq_true, Bool.and_eq_true, Bool.or_eq_false_iff, Bool.and_eq_false_iff, decide_eq_true_eq, decide_eq_false_iff_not, Bool.not_eq_true', Bool.not_eq_false', Int.natCast_inj, Int.ofNat_lt, Int.ofNat_le] at hc12
    refine EW_seq ?_
    -- region 2  raft.go:425
    refine EW_region ?_
    refine EL_s rfl rfl rfl (os_assign rfl) ?_
    refine EL_s rfl rfl rfl (os_assign rfl) ?_
    refine EL_s rfl rfl rfl (os_assign rfl) ?_
    refine EL_nil ?_
    refine EQ_then (EQ_wp ?_)
    refine EW_ret ?_
    refine EQ_then_ret (?_)
    exact pn_ret3 [_, _, _, _, _] Try.results31 (rv_tmp rfl) (rv_tmp rfl) (rv_tmp rfl) (.refl _) (Incl.cons (Incl.cons (Incl.cons (Incl.cons (Incl.cons (Incl.refl _) _) _) _) _) _) ⟨(NodeAt.to xr hora horb horc hord (by rw [NodeP.propose, if_neg (show ¬ xr.abs.role = 3 from hc12)]; first | done | rfl)), ⟨(Sl.mk (Hd.mk none 0 0) []), (by first | (rw [NodeP.propose, if_neg (show ¬ xr.abs.role = 3 from hc12)]; done) | (rw [NodeP.propose, if_neg (show ¬ xr.abs.role = 3 from hc12)]; rfl) | (rw [NodeP.propose, if_pos (show xr.abs.role = 3 from by show xr.role = 3; omega), hx15]; done) | (rw [NodeP.propose, if_pos (show xr.abs.role = 3 from by show xr.role = 3; omega), hx15]; rfl)), (FRow.none _ _ _), (by rw [NodeP.propose, if_neg (show ¬ xr.abs.role = 3 from hc12)]; first | done | rfl)⟩⟩ (.inl rfl)
  · have hb12 := hc12
    try simp only [Bool.or_eq_true, Bool.and_eq_true, Bool.or_eq_false_iff, Bool.and_eq_false_iff, decide_eq_true_eq, decide_eq_false_iff_not, Bool.not_eq_true', Bool.not_eq_false', Int.natCast_inj, Int.ofNat_lt, Int.ofNat_le] at hc12
    refine EW_skip ?_
    refine EQ_then (EQ_wp ?_)
    refine EW_seq ?_
    -- region 3  raft.go:427
    refine EW_region ?_
    refine EL_s rfl rfl rfl (os_move rfl) ?_
    refine EL_s rfl rfl rfl (os_move rfl) ?_
    refine EL_x rfl rfl (ox_callN (vs := [(.pointer (some ⟨br, 0, none⟩)), (data.v)]) body84 rfl (pl_0_5 _ _ _ _ _ _) (n_add (NodeAt.intro xr hora horb horc hord) (FRow.mono hdata (.refl _) (Incl.refl _)) (by exact hp0) (by exact hp2 (by omega)) (by exact hp3 (by omega)) (by simp only [Node.abs, List.length_map]; omega))) ?_
    rintro I15 L15 v15 hI15 ⟨Ss15, rfl, ⟨x15, S15a, S15b, S15c, S15d, hx15, rfl, ho15a, ho15b, ho15c, ho15d⟩, ⟨y15, rfl, hy15, hay15⟩⟩
    refine EL_perm (nm_5 _ _ _ _ _ _) ?_
    refine EL_s rfl rfl rfl (os_assign rfl) ?_
    refine EL_nil ?_
    refine EQ_then (EQ_wp ?_)
    refine EW_seq ?_
    -- region 4  raft.go:428
    refine EW_region ?_
    refine EL_s rfl rfl rfl (os_move rfl) ?_
    refine EL_s rfl rfl rfl (os_call (vs := [(.pointer (some ⟨br, 0, none⟩))]) body14 rfl (n_Last (NodeAt.intro x15 ho15a ho15b ho15c ho15d) (incl_mid [] [_, _, _, _, _] _) (by rw [hx15]; exact hp0.add (by simp only [Node.abs, List.length_map]; omega) _))) ?_
    have hq17 : NodeP.last (x15.abs) = x15.Base + x15.Entries.xs.length := by simp [NodeP.last, Node.abs]
    refine EL_s rfl rfl rfl (os_move rfl) ?_
    refine EL_s rfl rfl rfl (os_assign rfl) ?_
    refine EL_s rfl rfl rfl (os_assign rfl) ?_
    refine EL_s rfl rfl rfl (os_assign rfl) ?_
    refine EL_nil ?_
    refine EQ_then (EQ_wp ?_)
    refine EW_ret ?_
    exact pn_ret3 [_, _, _, _, _] Try.results31 (rv_tmp rfl) (rv_tmp rfl) (rv_tmp rfl) hI15 (Incl.cons (Incl.cons (Incl.cons (Incl.cons (Incl.cons (Incl.refl _) _) _) _) _) _) ⟨(NodeAt.to x15 ho15a ho15b ho15c ho15d (by rw [NodeP.propose, if_pos (show xr.abs.role = 3 from by show xr.role = 3; omega)]; first | done | exact hx15 | exact hay15 | (rw [hx15]; done) | (rw [hx15]; rfl) | rfl)), ⟨y15, (by first | (rw [NodeP.propose, if_neg (show ¬ xr.abs.role = 3 from hc12)]; done) | (rw [NodeP.propose, if_neg (show ¬ xr.abs.role = 3 from hc12)]; rfl) | (rw [NodeP.propose, if_pos (show xr.abs.role = 3 from by show xr.role = 3; omega), hx15]; done) | (rw [NodeP.propose, if_pos (show xr.abs.role = 3 from by show xr.role = 3; omega), hx15]; rfl)), (FRow.mono hy15 (.refl _) (.refl _)), (by rw [NodeP.propose, if_pos (show xr.abs.role = 3 from by show xr.role = 3; omega)]; first | done | exact hx15 | exact hay15 | (rw [hx15]; done) | (rw [hx15]; rfl) | rfl)⟩⟩ (.inl rfl)

theorem twinsO {I : Gh} {L : List Seg} {s : Sl Entry} (hs : FRow rEntry I L s) : PN Try.prog 64 #[s.v] I L ([]) fun K Ss' v => ∃ (y0 : Sl Entry) (y0_ : Seg), v = y0.v ∧ Ss' = [y0_] ∧ OwnR rEntry K 125 y0 y0_ ∧ y0.xs.map Entry.abs = s.xs.map Entry.abs := by
  refine PN.of (n := 23) Try.func64 rfl Try.ntmps64 rfl fun I0 L0 hI0 hL0 => ?_
  have hs := FRow.mono hs hI0 hL0
  have hl_s := FRow.len hs
  have hf_s := hs.few
  simp only [rEntry] at hf_s
  refine EW_seq ?_
  -- region 0  raft.go:78
  refine EW_region ?_
  refine EL_s rfl rfl rfl (os_assign rfl) ?_
  refine EL_nil ?_
  refine EQ_then (EQ_wp ?_)
  refine EW_seq ?_
  -- region 1  raft.go:79
  refine EW_region ?_
  refine EL_s rfl rfl rfl (os_assign rfl) ?_
  refine EL_nil ?_
  refine EQ_then (EQ_wp ?_)
  refine EW_seq ?_
  refine EW_seq ?_
  -- region 2  raft.go:80
  refine EW_region ?_
  refine EL_s rfl rfl rfl (os_move rfl) ?_
  have hl7 := (show s.h.n = s.xs.length from FRow.len hs)
  refine EL_s rfl rfl rfl (os_len rfl sl34) ?_
  refine EL_s rfl rfl rfl (os_move rfl) ?_
  refine EL_nil ?_
  refine EQ_then (EQ_wp ?_)
  refine EW_block ?_
  refine EW_loop (σ := Gh × Nat × Seg × (Sl Entry)) (fun ⟨IJ0, k, S, o⟩ => [(3, (o.v)), (6, (s.v)), (7, (.int .i64 ((s.h.n : Nat) : Int))), (8, (.int .i64 ((k : Nat) : Int)))]) (fun ⟨IJ0, k, S, o⟩ => IJ0) (fun ⟨IJ0, k, S, o⟩ => S :: L0) (fun ⟨IJ0, k, S, o⟩ => I0.le IJ0 ∧ k ≤ s.xs.length ∧ OwnR rEntry IJ0 125 o S ∧ o.xs.map Entry.abs = (s.xs.map Entry.abs).take k) (fun ⟨IJ0, k, S, o⟩ => s.xs.length - k) (I0, 0, [], ⟨⟨none, 0, 0⟩, []⟩) ⟨Gh.le.refl _, ⟨Nat.zero_le _, OwnR.none _ _ _, rfl⟩⟩ ⟨rfl, rfl, rfl, rfl, trivial⟩ (fun w h => h.incl (Incl.of_nil (.refl _))) ?_
  rintro ⟨IJ0, k, S, o⟩ ⟨hIJ0, ⟨hk, ho, ha⟩⟩
  have hlo := congrArg List.length ha
  simp only [List.length_map, List.length_take] at hlo
  refine EW_seq ?_
  -- region 3  raft.go:80
  refine EW_region ?_
  refine EL_s rfl rfl rfl (os_lss rfl rfl) ?_
  refine EL_nil ?_
  refine EQ_then (EQ_wp ?_)
  refine EW_seq ?_
  refine EW_cond rfl (fun hc9 => ?_) (fun hc9 => ?_)
  · have hb9 := hc9
    try simp only [Bool.or_eq_true, Bool.and_eq_true, Bool.or_eq_false_iff, Bool.and_eq_false_iff, decide_eq_true_eq, decide_eq_false_iff_not, Bool.not_eq_true', Bool.not_eq_false', Int.natCast_inj, Int.ofNat_lt, Int.ofNat_le] at hc9
    refine EW_skip ?_
    refine EQ_then (EQ_wp ?_)
    refine EW_seq ?_
    refine EW_block ?_
    refine EW_seq ?_
    -- region 4  raft.go:80
    refine EW_region ?_
    have hl10 := (show s.h.n = s.xs.length from FRow.len hs)
    obtain ⟨x10, hx10⟩ := get_some (l := s.xs) (k := k) (by first | omega | (simp only [List.length_set, List.length_replicate, List.length_cons, List.length_nil]; omega) | (simp <;> omega))
    refine EL_s rfl rfl rfl (os_at (m := s.h.n) (k) rfl rfl (by omega) sl34 (by omega) (by have hz_ := FRow.some hs (by show 0 < s.h.n; omega); exact hz_)) ?_
    have hk11 := FRow.okAt hs hx10
    refine EL_s rfl rfl rfl (os_load_agg (cs := rEntry.cells x10) rfl agg125 (FRow.whole (FRow.mono hs hIJ0 ((Incl.refl _).skip _)) hx10)) ?_
    refine EL_a rfl rfl rfl (oa_alloc z125) ?_
    intro b5
    refine EL_u rfl rfl (ox_store rfl rfl sz125 rfl (by rfl) (.head .head)) ?_
    refine EL_nil ?_
    refine EQ_then (EQ_wp ?_)
    -- region 5 DRAWN  raft.go:81
    refine EW_drawC [] [⟨[], some 12, [3], .s, 0⟩, ⟨[], some 13, [5], .s, 0⟩, ⟨[1], some 14, [13], .s, 2⟩, ⟨[], some 15, [5], .s, 0⟩, ⟨[3], some 16, [15], .s, 8⟩, ⟨[4], some 17, [16], .g, 24⟩, ⟨[2, 5], some 18, [14, 17], .s, 62⟩, ⟨[6], some 19, [18], .a, 126⟩, ⟨[0, 7, 5], some 20, [12, 19], .x, 255⟩, ⟨[8, 8, 0, 1, 2, 3, 4, 5, 6, 7, 8], some 3, [20], .s, 511⟩] [.s, .s, .s, .s, .s, .g, .s, .a, .x, .s] [0, 1, 2, 3, 4, 5, 6, 7, 8, 9] mixed (by kernel_rfl) (by kernel_rfl) (by kernel_rfl) rfl rfl ?_
    refine EP_s rfl rfl rfl rfl rfl (by exact (os_move rfl)) ?_
    refine EP_s rfl rfl rfl rfl rfl (by exact (os_field rfl fl125_0)) ?_
    refine EP_s rfl rfl rfl rfl rfl (by exact (os_load_one rfl one22 (cells_own own_head rfl))) ?_
    refine EP_s rfl rfl rfl rfl rfl (by exact (os_field rfl fl125_1)) ?_
    refine EP_s rfl rfl rfl rfl rfl (by exact (os_load_one rfl one39 (cells_own own_head rfl))) ?_
    refine EP_g rfl rfl rfl rfl rfl (by exact (og_call (vs := [(x10.Data.v)]) body97 rfl (bytes_Clone (FRow.mono hk11.Data hIJ0 (Incl.nil _))))) ?_
    intro I17 v17 hI17 hv17
    obtain ⟨y17, rfl, hy17, hay17⟩ := hv17
    refine EP_s rfl rfl rfl rfl rfl (by exact (os_struct (cs := [_, _]) [(0, _), (1, _)] pl125 z125 rfl rfl)) ?_
    have hr_y19_0 : Entry.Ok I17 (Entry.mk x10.Term y17) := ⟨hk11.Term, (FRow.mono hy17 (.refl _) (.refl _))⟩
    refine EP_a rfl rfl rfl rfl rfl (by exact (oa_slice [_] sl34 z125 rfl rfl rfl rfl)) ?_
    intro b19
    have hob19 : OwnR rEntry I17 125 (Sl.mk (Hd.mk (some ⟨b19, 0, none⟩) 1 1) [(Entry.mk x10.Term y17)]) [(b19, .cells _ 125)] := OwnR.lit rfl rfl (by unfold maxLen; omega) (by decide) (fun x hx => by simp only [List.mem_cons, List.not_mem_nil, or_false] at hx; rcases hx with rfl <;> first | exact hr_y19_0)
    refine EP_y rfl rfl rfl rfl rfl (by exact (ox_app (R := rEntry) (bytes := 32) (s := o) (s' := (Sl.mk (Hd.mk (some ⟨b19, 0, none⟩) 1 1) [(Entry.mk x10.Term y17)])) 2 rfl rfl rfl rfl sl34 z125 rfl (ho.mono hI17) (bk_2 _ _ _ _) (OwnR.frow hob19 fun x hx => .inr (own_seg hx)) (by first | omega | (simp only [List.length_cons, List.length_nil, Nat.zero_add]; omega)) (by unfold maxLen; first | omega | (simp only [List.length_cons, List.length_nil, Nat.zero_add]; omega)))) ?_
    rintro L20 v20 ⟨s20, S20, rfl, rfl, hx20, ho20⟩
    refine EP_perm (bk_2 _ _ _ _) ?_
    refine EP_s rfl rfl rfl rfl rfl (by exact (os_assign rfl)) ?_
    refine EP_nil ?_
    refine EQ_block_normal ?_
    refine EQ_then (EQ_wp ?_)
    -- region 6  raft.go:80
    refine EW_region ?_
    refine EL_s rfl rfl rfl (os_addn (p := k) (q := 1) rfl rfl (IntWalk.i64_in _ (by omega))) ?_
    refine EL_s rfl rfl rfl (os_move rfl) ?_
    refine EL_nil ?_
    refine EQ_round (I17, (k + 1), S20, s20) ?_ ?_ ?_ ?_
    · exact ⟨(hIJ0.trans hI17), ⟨by omega, ho20, by rw [hx20]; simp only [List.map_append, ha]; simp only [List.map_cons, List.map_nil, Entry.abs, hay17]; rw [List.take_add_one]; simp [hx10, Entry.abs]⟩⟩
    · first | omega | (dsimp only; omega)
    · exact ⟨rfl, rfl, rfl, rfl, trivial⟩
    · exact fun w h => h.incl (Incl.skip (Incl.skip (Incl.cons (Incl.refl _) _) _) _)
  · have hb9 := hc9
    try simp only [Bool.or_eq_true, Bool.and_eq_true, Bool.or_eq_false_iff, Bool.and_eq_false_iff, decide_eq_true_eq, decide_eq_false_iff_not, Bool.not_eq_true', Bool.not_eq_false', Int.natCast_inj, Int.ofNat_lt, Int.ofNat_le] at hc9
    refine EW_exit ?_
    refine EQ_then_exit (EQ_then_exit (EQ_block_exit (?_)))
    refine EQ_then (EQ_wp ?_)
    refine EW_seq ?_
    -- region 7  raft.go:83
    refine EW_region ?_
    refine EL_s rfl rfl rfl (os_move rfl) ?_
    refine EL_s rfl rfl rfl (os_assign rfl) ?_
    refine EL_nil ?_
    refine EQ_then (EQ_wp ?_)
    refine EW_ret ?_
    exact pn_ret1 [_] Try.results64 (rv_tmp rfl) hIJ0 (Incl.cons (Incl.refl _) _) ⟨o, _, rfl, rfl, ho, (by rw [ha, List.take_of_length_le (by simp; omega)])⟩ (.inl rfl)

set_option maxHeartbeats 1000000 in
theorem n_New {I : Gh} {L : List Seg} (id : Int) (n : Int) (limit : Int) {s : StateR} (hs : StateR.Ok I s) (hp0 : newErr id n limit s.abs = 0) : PN Try.prog 12 #[.int .i64 id, .int .i64 n, .int .i64 limit, .agg (s.cells).toArray] I L ([]) fun K Ss' v => ∃ b, NodeAt K b (newNode id n limit s.abs) Ss' ∧ v = .tuple #[.pointer (some ⟨b, 0, none⟩), .int .i64 0] := by
  refine PN.of (n := 78) Try.func12 rfl Try.ntmps12 rfl fun I0 L0 hI0 hL0 => ?_
  have hs := hs.mono hI0
  have hsv := hs.Vote
  have hst := hs.Term
  have hsb := hs.Base
  have hrn : 1 = 1 := rfl
  obtain ⟨hne, hnv, hnv2, hnr, hnb, hnt⟩ := new_ok hp0
  simp only [StateR.abs] at hnv hnv2 hnr hnb hnt
  refine EW_seq ?_
  -- region 0  raft.go:98
  refine EW_region ?_
  refine EL_a rfl rfl rfl (oa_box rfl) ?_
  intro b7
  refine EL_s rfl rfl rfl (os_assign rfl) ?_
  refine EL_s rfl rfl rfl (os_assign rfl) ?_
  refine EL_nil ?_
  refine EQ_then (EQ_wp ?_)
  refine EW_seq ?_
  refine EW_seq ?_
  -- region 1  raft.go:99
  refine EW_region ?_
  refine EL_s rfl rfl rfl (os_move rfl) ?_
  refine EL_s rfl rfl rfl (os_lss rfl rfl) ?_
  refine EL_s rfl rfl rfl (os_move rfl) ?_
  refine EL_joint 3 15 (.bool ((decide (n < 1)) || (decide (5 < n)))) ?_ ?_
  · skip
    refine ES_case (decide (n < 1)) (fun hg12 => ?_) (fun hg12 => ?_)
    · have hg12_ := hg12
      try simp only [Bool.or_eq_true, Bool.and_eq_true, Bool.or_eq_false_iff, Bool.and_eq_false_iff, decide_eq_true_eq, decide_eq_false_iff_not, Bool.not_eq_true', Bool.not_eq_false', Int.natCast_inj, Int.ofNat_lt, Int.ofNat_le] at hg12_
      refine ES_no rfl hg12 rfl rfl rfl rfl ?_
      refine ES_no rfl hg12 rfl rfl rfl rfl ?_
      refine ES_s rfl rfl rfl (os_pick_t' rfl hg12 rfl) ?_
      exact ES_fin 3 rfl rfl (by rw [hg12]; rfl)
    · have hg12_ := hg12
      try simp only [Bool.or_eq_true, Bool.and_eq_true, Bool.or_eq_false_iff, Bool.and_eq_false_iff, decide_eq_true_eq, decide_eq_false_iff_not, Bool.not_eq_true', Bool.not_eq_false', Int.natCast_inj, Int.ofNat_lt, Int.ofNat_le] at hg12_
      refine ES_yes (j := 2) (b := false) rfl rfl rfl hg12 rfl rfl (os_move rfl) ?_
      refine ES_yes (j := 2) (b := false) rfl rfl rfl hg12 rfl rfl (os_gtr rfl rfl) ?_
      refine ES_s rfl rfl rfl (os_pick_f' rfl hg12 rfl) ?_
      exact ES_fin 3 rfl rfl (by rw [hg12]; rfl)
  refine EL_s rfl rfl rfl (os_move rfl) ?_
  refine EL_joint 3 19 (.bool (((decide (n < 1)) || (decide (5 < n))) || (decide (id < 0)))) ?_ ?_
  · skip
    refine ES_case ((decide (n < 1)) || (decide (5 < n))) (fun hg16 => ?_) (fun hg16 => ?_)
    · have hg16_ := hg16
      try simp only [Bool.or_eq_true, Bool.and_eq_true, Bool.or_eq_false_iff, Bool.and_eq_false_iff, decide_eq_true_eq, decide_eq_false_iff_not, Bool.not_eq_true', Bool.not_eq_false', Int.natCast_inj, Int.ofNat_lt, Int.ofNat_le] at hg16_
      refine ES_no rfl hg16 rfl rfl rfl rfl ?_
      refine ES_no rfl hg16 rfl rfl rfl rfl ?_
      refine ES_s rfl rfl rfl (os_pick_t' rfl hg16 rfl) ?_
      exact ES_fin 3 rfl rfl (by rw [hg16]; rfl)
    · have hg16_ := hg16
      try simp only [Bool.or_eq_true, Bool.and_eq_true, Bool.or_eq_false_iff, Bool.and_eq_false_iff, decide_eq_true_eq, decide_eq_false_iff_not, Bool.not_eq_true', Bool.not_eq_false', Int.natCast_inj, Int.ofNat_lt, Int.ofNat_le] at hg16_
      refine ES_yes (j := 6) (b := false) rfl rfl rfl hg16 rfl rfl (os_move rfl) ?_
      refine ES_yes (j := 6) (b := false) rfl rfl rfl hg16 rfl rfl (os_lss rfl rfl) ?_
      refine ES_s rfl rfl rfl (os_pick_f' rfl hg16 rfl) ?_
      exact ES_fin 3 rfl rfl (by rw [hg16]; rfl)
  refine EL_s rfl rfl rfl (os_move rfl) ?_
  refine EL_joint 4 24 (.bool ((((decide (n < 1)) || (decide (5 < n))) || (decide (id < 0))) || (decide (n ≤ id)))) ?_ ?_
  · skip
    refine ES_case (((decide (n < 1)) || (decide (5 < n))) || (decide (id < 0))) (fun hg20 => ?_) (fun hg20 => ?_)
    · have hg20_ := hg20
      try simp only [Bool.or_eq_true, Bool.and_eq_true, Bool.or_eq_false_iff, Bool.and_eq_false_iff, decide_eq_true_eq, decide_eq_false_iff_not, Bool.not_eq_true', Bool.not_eq_false', Int.natCast_inj, Int.ofNat_lt, Int.ofNat_le] at hg20_
      refine ES_no rfl hg20 rfl rfl rfl rfl ?_
      refine ES_no rfl hg20 rfl rfl rfl rfl ?_
      refine ES_no rfl hg20 rfl rfl rfl rfl ?_
      refine ES_s rfl rfl rfl (os_pick_t' rfl hg20 rfl) ?_
      exact ES_fin 4 rfl rfl (by rw [hg20]; rfl)
    · have hg20_ := hg20
      try simp only [Bool.or_eq_true, Bool.and_eq_true, Bool.or_eq_false_iff, Bool.and_eq_false_iff, decide_eq_true_eq, decide_eq_false_iff_not, Bool.not_eq_true', Bool.not_eq_false', Int.natCast_inj, Int.ofNat_lt, Int.ofNat_le] at hg20_
      refine ES_yes (j := 10) (b := false) rfl rfl rfl hg20 rfl rfl (os_move rfl) ?_
      refine ES_yes (j := 10) (b := false) rfl rfl rfl hg20 rfl rfl (os_move rfl) ?_
      refine ES_yes (j := 10) (b := false) rfl rfl rfl hg20 rfl rfl (os_geq rfl rfl) ?_
      refine ES_s rfl rfl rfl (os_pick_f' rfl hg20 rfl) ?_
      exact ES_fin 4 rfl rfl (by rw [hg20]; rfl)
  refine EL_s rfl rfl rfl (os_move rfl) ?_
  refine EL_joint 3 28 (.bool (((((decide (n < 1)) || (decide (5 < n))) || (decide (id < 0))) || (decide (n ≤ id))) || (decide (limit < 1)))) ?_ ?_
  · skip
    refine ES_case ((((decide (n < 1)) || (decide (5 < n))) || (decide (id < 0))) || (decide (n ≤ id))) (fun hg25 => ?_) (fun hg25 => ?_)
    · have hg25_ := hg25
      try simp only [Bool.or_eq_true, Bool.and_eq_true, Bool.or_eq_false_iff, Bool.and_eq_false_iff, decide_eq_true_eq, decide_eq_false_iff_not, Bool.not_eq_true', Bool.not_eq_false', Int.natCast_inj, Int.ofNat_lt, Int.ofNat_le] at hg25_
      refine ES_no rfl hg25 rfl rfl rfl rfl ?_
      refine ES_no rfl hg25 rfl rfl rfl rfl ?_
      refine ES_s rfl rfl rfl (os_pick_t' rfl hg25 rfl) ?_
      exact ES_fin 3 rfl rfl (by rw [hg25]; rfl)
    · have hg25_ := hg25
      try simp only [Bool.or_eq_true, Bool.and_eq_true, Bool.or_eq_false_iff, Bool.and_eq_false_iff, decide_eq_true_eq, decide_eq_false_iff_not, Bool.not_eq_true', Bool.not_eq_false', Int.natCast_inj, Int.ofNat_lt, Int.ofNat_le] at hg25_
      refine ES_yes (j := 15) (b := false) rfl rfl rfl hg25 rfl rfl (os_move rfl) ?_
      refine ES_yes (j := 15) (b := false) rfl rfl rfl hg25 rfl rfl (os_lss rfl rfl) ?_
      refine ES_s rfl rfl rfl (os_pick_f' rfl hg25 rfl) ?_
      exact ES_fin 3 rfl rfl (by rw [hg25]; rfl)
  refine EL_s rfl rfl rfl (os_move rfl) ?_
  refine EL_joint 3 32 (.bool ((((((decide (n < 1)) || (decide (5 < n))) || (decide (id < 0))) || (decide (n ≤ id))) || (decide (limit < 1))) || (decide (1000 < limit)))) ?_ ?_
  · skip
    refine ES_case (((((decide (n < 1)) || (decide (5 < n))) || (decide (id < 0))) || (decide (n ≤ id))) || (decide (limit < 1))) (fun hg29 => ?_) (fun hg29 => ?_)
    · have hg29_ := hg29
      try simp only [Bool.or_eq_true, Bool.and_eq_true, Bool.or_eq_false_iff, Bool.and_eq_false_iff, decide_eq_true_eq, decide_eq_false_iff_not, Bool.not_eq_true', Bool.not_eq_false', Int.natCast_inj, Int.ofNat_lt, Int.ofNat_le] at hg29_
      refine ES_no rfl hg29 rfl rfl rfl rfl ?_
      refine ES_no rfl hg29 rfl rfl rfl rfl ?_
      refine ES_s rfl rfl rfl (os_pick_t' rfl hg29 rfl) ?_
      exact ES_fin 3 rfl rfl (by rw [hg29]; rfl)
    · have hg29_ := hg29
      try simp only [Bool.or_eq_true, Bool.and_eq_true, Bool.or_eq_false_iff, Bool.and_eq_false_iff, decide_eq_true_eq, decide_eq_false_iff_not, Bool.not_eq_true', Bool.not_eq_false', Int.natCast_inj, Int.ofNat_lt, Int.ofNat_le] at hg29_
      refine ES_yes (j := 19) (b := false) rfl rfl rfl hg29 rfl rfl (os_move rfl) ?_
      refine ES_yes (j := 19) (b := false) rfl rfl rfl hg29 rfl rfl (os_gtr rfl rfl) ?_
      refine ES_s rfl rfl rfl (os_pick_f' rfl hg29 rfl) ?_
      exact ES_fin 3 rfl rfl (by rw [hg29]; rfl)
  refine EL_nil ?_
  refine EQ_then (EQ_wp ?_)
  refine EW_cond rfl (fun hc32 => ?_) (fun hc32 => ?_)
  · have hb32 := hc32
    try simp only [Bool.or_eq_true, Bool.and_eq_true, Bool.or_eq_false_iff, Bool.and_eq_false_iff, decide_eq_true_eq, decide_eq_false_iff_not, Bool.not_eq_true', Bool.not_eq_false', Int.natCast_inj, Int.ofNat_lt, Int.ofNat_le] at hc32
    exfalso; omega
  · have hb32 := hc32
    try simp only [Bool.or_eq_true, Bool.and_eq_true, Bool.or_eq_false_iff, Bool.and_eq_false_iff, decide_eq_true_eq, decide_eq_false_iff_not, Bool.not_eq_true', Bool.not_eq_false', Int.natCast_inj, Int.ofNat_lt, Int.ofNat_le] at hc32
    refine EW_skip ?_
    refine EQ_then (EQ_wp ?_)
    refine EW_seq ?_
    refine EW_seq ?_
    -- region 3  raft.go:102
    refine EW_region ?_
    refine EL_s rfl rfl rfl (os_field rfl fl36_0) ?_
    refine EL_s rfl rfl rfl (os_field rfl fl33_1) ?_
    refine EL_s rfl rfl rfl (os_load_one rfl one3 (cells_own own_head rfl)) ?_
    refine EL_s rfl rfl rfl (os_lss rfl rfl) ?_
    refine EL_s rfl rfl rfl (os_move rfl) ?_
    refine EL_joint 6 43 (.bool ((decide (s.Vote < (-1))) || (decide (n ≤ s.Vote)))) ?_ ?_
    · skip
      refine ES_case (decide (s.Vote < (-1))) (fun hg37 => ?_) (fun hg37 => ?_)
      · have hg37_ := hg37
        try simp only [Bool.or_eq_true, Bool.and_eq_true, Bool.or_eq_false_iff, Bool.and_eq_false_iff, decide_eq_true_eq, decide_eq_false_iff_not, Bool.not_eq_true', Bool.not_eq_false', Int.natCast_inj, Int.ofNat_lt, Int.ofNat_le] at hg37_
        refine ES_no rfl hg37 rfl rfl rfl rfl ?_
        refine ES_no rfl hg37 rfl rfl rfl rfl ?_
        refine ES_no rfl hg37 rfl rfl rfl rfl ?_
        refine ES_no rfl hg37 rfl rfl rfl rfl ?_
        refine ES_no rfl hg37 rfl rfl rfl rfl ?_
        refine ES_s rfl rfl rfl (os_pick_t' rfl hg37 rfl) ?_
        exact ES_fin 6 rfl rfl (by rw [hg37]; rfl)
      · have hg37_ := hg37
        try simp only [Bool.or_eq_true, Bool.and_eq_true, Bool.or_eq_false_iff, Bool.and_eq_false_iff, decide_eq_true_eq, decide_eq_false_iff_not, Bool.not_eq_true', Bool.not_eq_false', Int.natCast_inj, Int.ofNat_lt, Int.ofNat_le] at hg37_
        refine ES_yes (j := 4) (b := false) rfl rfl rfl hg37 rfl rfl (os_field rfl fl36_0) ?_
        refine ES_yes (j := 4) (b := false) rfl rfl rfl hg37 rfl rfl (os_field rfl fl33_1) ?_
        refine ES_yes (j := 4) (b := false) rfl rfl rfl hg37 rfl rfl (os_load_one rfl one3 (cells_own own_head rfl)) ?_
        refine ES_yes (j := 4) (b := false) rfl rfl rfl hg37 rfl rfl (os_move rfl) ?_
        refine ES_yes (j := 4) (b := false) rfl rfl rfl hg37 rfl rfl (os_geq rfl rfl) ?_
        refine ES_s rfl rfl rfl (os_pick_f' rfl hg37 rfl) ?_
        exact ES_fin 6 rfl rfl (by rw [hg37]; rfl)
    refine EL_s rfl rfl rfl (os_move rfl) ?_
    refine EL_joint 10 54 (.bool (((decide (s.Vote < (-1))) || (decide (n ≤ s.Vote))) || (!(risingP (s.Entries.xs.map Entry.abs) s.BaseTerm s.Term)))) ?_ ?_
    · skip
      refine ES_case ((decide (s.Vote < (-1))) || (decide (n ≤ s.Vote))) (fun hg44 => ?_) (fun hg44 => ?_)
      · have hg44_ := hg44
        try simp only [Bool.or_eq_true, Bool.and_eq_true, Bool.or_eq_false_iff, Bool.and_eq_false_iff, decide_eq_true_eq, decide_eq_false_iff_not, Bool.not_eq_true', Bool.not_eq_false', Int.natCast_inj, Int.ofNat_lt, Int.ofNat_le] at hg44_
        refine ES_no rfl hg44 rfl rfl rfl rfl ?_
        refine ES_no rfl hg44 rfl rfl rfl rfl ?_
        refine ES_no rfl hg44 rfl rfl rfl rfl ?_
        refine ES_no rfl hg44 rfl rfl rfl rfl ?_
        refine ES_no rfl hg44 rfl rfl rfl rfl ?_
        refine ES_no rfl hg44 rfl rfl rfl rfl ?_
        refine ES_no rfl hg44 rfl rfl rfl rfl ?_
        refine ES_no rfl hg44 rfl rfl rfl rfl ?_
        refine ES_no rfl hg44 rfl rfl rfl rfl ?_
        refine ES_s rfl rfl rfl (os_pick_t' rfl hg44 rfl) ?_
        exact ES_fin 10 rfl rfl (by rw [hg44]; rfl)
      · have hg44_ := hg44
        try simp only [Bool.or_eq_true, Bool.and_eq_true, Bool.or_eq_false_iff, Bool.and_eq_false_iff, decide_eq_true_eq, decide_eq_false_iff_not, Bool.not_eq_true', Bool.not_eq_false', Int.natCast_inj, Int.ofNat_lt, Int.ofNat_le] at hg44_
        refine ES_yes (j := 11) (b := false) rfl rfl rfl hg44 rfl rfl (os_field rfl fl36_3) ?_
        refine ES_yes (j := 11) (b := false) rfl rfl rfl hg44 rfl rfl (os_load_one rfl one34 (cells_own own_head rfl)) ?_
        refine ES_yes (j := 11) (b := false) rfl rfl rfl hg44 rfl rfl (os_field rfl fl36_2) ?_
        refine ES_yes (j := 11) (b := false) rfl rfl rfl hg44 rfl rfl (os_load_one rfl one22 (cells_own own_head rfl)) ?_
        refine ES_yes (j := 11) (b := false) rfl rfl rfl hg44 rfl rfl (os_field rfl fl36_0) ?_
        refine ES_yes (j := 11) (b := false) rfl rfl rfl hg44 rfl rfl (os_field rfl fl33_0) ?_
        refine ES_yes (j := 11) (b := false) rfl rfl rfl hg44 rfl rfl (os_load_one rfl one22 (cells_own own_head rfl)) ?_
        refine ES_yes (j := 11) (b := false) rfl rfl rfl hg44 rfl rfl (os_call (vs := [(s.Entries.v), (.int .u64 ((s.BaseTerm : Nat) : Int)), (.int .u64 ((s.Term : Nat) : Int))]) body63 rfl (rising (FRow.mono hs.Entries (.refl _) (Incl.nil _)) s.BaseTerm s.Term)) ?_
        refine ES_yes (j := 11) (b := false) rfl rfl rfl hg44 rfl rfl (os_not rfl) ?_
        refine ES_s rfl rfl rfl (os_pick_f' rfl hg44 rfl) ?_
        exact ES_fin 10 rfl rfl (by rw [hg44]; rfl)
    refine EL_s rfl rfl rfl (os_move rfl) ?_
    refine EL_joint 4 59 (.bool ((((decide (s.Vote < (-1))) || (decide (n ≤ s.Vote))) || (!(risingP (s.Entries.xs.map Entry.abs) s.BaseTerm s.Term))) || (decide (4611686018427387904 < ((s.Base : Nat) : Int))))) ?_ ?_
    · skip
      refine ES_case (((decide (s.Vote < (-1))) || (decide (n ≤ s.Vote))) || (!(risingP (s.Entries.xs.map Entry.abs) s.BaseTerm s.Term))) (fun hg55 => ?_) (fun hg55 => ?_)
      · have hg55_ := hg55
        try simp only [Bool.or_eq_true, Bool.and_eq_true, Bool.or_eq_false_iff, Bool.and_eq_false_iff, decide_eq_true_eq, decide_eq_false_iff_not, Bool.not_eq_true', Bool.not_eq_false', Int.natCast_inj, Int.ofNat_lt, Int.ofNat_le] at hg55_
        refine ES_no rfl hg55 rfl rfl rfl rfl ?_
        refine ES_no rfl hg55 rfl rfl rfl rfl ?_
        refine ES_no rfl hg55 rfl rfl rfl rfl ?_
        refine ES_s rfl rfl rfl (os_pick_t' rfl hg55 rfl) ?_
        exact ES_fin 4 rfl rfl (by rw [hg55]; rfl)
      · have hg55_ := hg55
        try simp only [Bool.or_eq_true, Bool.and_eq_true, Bool.or_eq_false_iff, Bool.and_eq_false_iff, decide_eq_true_eq, decide_eq_false_iff_not, Bool.not_eq_true', Bool.not_eq_false', Int.natCast_inj, Int.ofNat_lt, Int.ofNat_le] at hg55_
        refine ES_yes (j := 22) (b := false) rfl rfl rfl hg55 rfl rfl (os_field rfl fl36_1) ?_
        refine ES_yes (j := 22) (b := false) rfl rfl rfl hg55 rfl rfl (os_load_one rfl one22 (cells_own own_head rfl)) ?_
        refine ES_yes (j := 22) (b := false) rfl rfl rfl hg55 rfl rfl (os_gtr rfl rfl) ?_
        refine ES_s rfl rfl rfl (os_pick_f' rfl hg55 rfl) ?_
        exact ES_fin 4 rfl rfl (by rw [hg55]; rfl)
    refine EL_s rfl rfl rfl (os_move rfl) ?_
    refine EL_joint 5 65 (.bool (((((decide (s.Vote < (-1))) || (decide (n ≤ s.Vote))) || (!(risingP (s.Entries.xs.map Entry.abs) s.BaseTerm s.Term))) || (decide (4611686018427387904 < ((s.Base : Nat) : Int)))) || (decide (4611686018427387904 < ((s.Term : Nat) : Int))))) ?_ ?_
    · skip
      refine ES_case ((((decide (s.Vote < (-1))) || (decide (n ≤ s.Vote))) || (!(risingP (s.Entries.xs.map Entry.abs) s.BaseTerm s.Term))) || (decide (4611686018427387904 < ((s.Base : Nat) : Int)))) (fun hg60 => ?_) (fun hg60 => ?_)
      · have hg60_ := hg60
        try simp only [Bool.or_eq_true, Bool.and_eq_true, Bool.or_eq_false_iff, Bool.and_eq_false_iff, decide_eq_true_eq, decide_eq_false_iff_not, Bool.not_eq_true', Bool.not_eq_false', Int.natCast_inj, Int.ofNat_lt, Int.ofNat_le] at hg60_
        refine ES_no rfl hg60 rfl rfl rfl rfl ?_
        refine ES_no rfl hg60 rfl rfl rfl rfl ?_
        refine ES_no rfl hg60 rfl rfl rfl rfl ?_
        refine ES_no rfl hg60 rfl rfl rfl rfl ?_
        refine ES_s rfl rfl rfl (os_pick_t' rfl hg60 rfl) ?_
        exact ES_fin 5 rfl rfl (by rw [hg60]; rfl)
      · have hg60_ := hg60
        try simp only [Bool.or_eq_true, Bool.and_eq_true, Bool.or_eq_false_iff, Bool.and_eq_false_iff, decide_eq_true_eq, decide_eq_false_iff_not, Bool.not_eq_true', Bool.not_eq_false', Int.natCast_inj, Int.ofNat_lt, Int.ofNat_le] at hg60_
        refine ES_yes (j := 27) (b := false) rfl rfl rfl hg60 rfl rfl (os_field rfl fl36_0) ?_
        refine ES_yes (j := 27) (b := false) rfl rfl rfl hg60 rfl rfl (os_field rfl fl33_0) ?_
        refine ES_yes (j := 27) (b := false) rfl rfl rfl hg60 rfl rfl (os_load_one rfl one22 (cells_own own_head rfl)) ?_
        refine ES_yes (j := 27) (b := false) rfl rfl rfl hg60 rfl rfl (os_gtr rfl rfl) ?_
        refine ES_s rfl rfl rfl (os_pick_f' rfl hg60 rfl) ?_
        exact ES_fin 5 rfl rfl (by rw [hg60]; rfl)
    refine EL_nil ?_
    refine EQ_then (EQ_wp ?_)
    refine EW_cond rfl (fun hc65 => ?_) (fun hc65 => ?_)
    · have hb65 := hc65
      try simp only [Bool.or_eq_true, Bool.and_eq_true, Bool.or_eq_false_iff, Bool.and_eq_false_iff, decide_eq_true_eq, decide_eq_false_iff_not, Bool.not_eq_true', Bool.not_eq_false', Int.natCast_inj, Int.ofNat_lt, Int.ofNat_le] at hc65
      exfalso; simp [hnr] at hc65; omega
    · have hb65 := hc65
      try simp only [Bool.or_eq_true, Bool.and_eq_true, Bool.or_eq_false_iff, Bool.and_eq_false_iff, decide_eq_true_eq, decide_eq_false_iff_not, Bool.not_eq_true', Bool.not_eq_false', Int.natCast_inj, Int.ofNat_lt, Int.ofNat_le] at hc65
      refine EW_skip ?_
      refine EQ_then (EQ_wp ?_)
      refine EW_seq ?_
      -- region 5  raft.go:105
      refine EW_region ?_
      refine EL_s rfl rfl rfl (os_field rfl fl36_3) ?_
      refine EL_s rfl rfl rfl (os_load_one rfl one34 (cells_own own_head rfl)) ?_
      refine EL_x rfl rfl (ox_callN (vs := [(s.Entries.v)]) body64 rfl (Ss := []) (List.Perm.refl _) (twinsO (FRow.mono hs.Entries (.refl _) (Incl.nil _)))) ?_
      rintro I68 L68 v68 hI68 ⟨Ss68, rfl, ⟨y68, y68_, rfl, rfl, hy68, hay68⟩⟩
      refine EL_perm (nm_1 _ _) ?_
      refine EL_s rfl rfl rfl (os_field rfl fl36_3) ?_
      refine EL_u rfl rfl (ox_store rfl rfl sz34 rfl (by rfl) (.tail (.head .head))) ?_
      refine EL_nil ?_
      refine EQ_then (EQ_wp ?_)
      refine EW_seq ?_
      -- region 6  raft.go:106
      refine EW_region ?_
      refine EL_s rfl rfl rfl (os_load_agg (cs := [_, _, _, _, _]) rfl agg36 (cells_own (own_tail own_head) rfl)) ?_
      refine EL_s rfl rfl rfl (os_move rfl) ?_
      refine EL_s rfl rfl rfl (os_move rfl) ?_
      refine EL_s rfl rfl rfl (os_move rfl) ?_
      refine EL_s rfl rfl rfl (os_field rfl fl36_1) ?_
      refine EL_s rfl rfl rfl (os_load_one rfl one22 (cells_own (own_tail own_head) rfl)) ?_
      refine EL_s rfl rfl rfl (os_struct (cs := [_, _, _, _, _, _, _, _, _, _, _, _, _, _, _]) [(0, _), (1, _), (2, _), (3, _), (5, _), (6, _)] pl47 z47 rfl rfl) ?_
      refine EL_a rfl rfl rfl (oa_box rfl) ?_
      intro b77
      skip
      refine EL_s rfl rfl rfl (os_assign rfl) ?_
      refine EL_s rfl rfl rfl (os_assign rfl) ?_
      refine EL_nil ?_
      refine EQ_own (incl_empty _) ?_
      have hoe1 : OwnR rBool I68 4 (Sl.mk (Hd.mk none 0 0) []) [] := OwnR.none _ _ _
      refine EQ_own (incl_empty _) ?_
      have hoe2 : OwnR rU64 I68 22 (Sl.mk (Hd.mk none 0 0) []) [] := OwnR.none _ _ _
      refine EQ_own (incl_empty _) ?_
      have hoe3 : OwnR rU64 I68 22 (Sl.mk (Hd.mk none 0 0) []) [] := OwnR.none _ _ _
      refine EQ_then (EQ_wp ?_)
      refine EW_ret ?_
      refine EQ_perm (mv_1 _ _ _) ?_
      refine EQ_perm (mv_2 _ _ _ _) ?_
      refine EQ_perm (mv_4 _ _ _ _ _ _) ?_
      refine EQ_perm (mv_4 _ _ _ _ _ _) ?_
      exact pn_ret2 [_, _, _, _, _] Try.results12 (rv_tmp rfl) (rv_tmp rfl) hI68 (Incl.cons (Incl.cons (Incl.cons (Incl.cons (Incl.cons (Incl.skip (Incl.refl _) _) _) _) _) _) _) ⟨b77, NodeAt.to (Node.mk s.Term s.Vote s.Base s.BaseTerm y68 id n limit 0 (-1) s.Base 0 (Sl.mk (Hd.mk none 0 0) []) (Sl.mk (Hd.mk none 0 0) []) (Sl.mk (Hd.mk none 0 0) [])) hy68 hoe1 hoe2 hoe3 (by simp [Node.abs, newNode, StateR.abs, hay68]), rfl⟩ (.inl rfl)


end Go.Proofs.Ytlhibbjnhdcffaa
