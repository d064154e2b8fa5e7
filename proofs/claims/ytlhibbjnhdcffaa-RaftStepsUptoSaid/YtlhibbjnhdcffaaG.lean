/- Proved here: the part G of the proof that the law of this seat returns true for every input; no condition. -/
import Derived.Test.YtlhibbjnhdcffaaF
set_option maxRecDepth 20000
set_option linter.unusedVariables false
set_option linter.unusedSimpArgs false
namespace Go.Proofs.Ytlhibbjnhdcffaa
open Go Go.Gl

set_option maxHeartbeats 1000000 in
theorem n_vote {I : Gh} {L : List Seg} {br : Nat} {r : NodeP} {Ssr : List Seg} (hr : NodeAt I br r Ssr) {m : Msg} (hm : Msg.Ok I m) (hp0 : NodeP.Few r) (hp1 : 0 ≤ m.abs.From ∧ m.abs.From < r.n) (hp2 : m.abs.Term ≤ 4611686018427387904) : PN Try.prog 69 #[.pointer (some ⟨br, 0, none⟩), .agg (m.cells).toArray] I L (Ssr) fun K Ss' v => NodeAt K br ((r.vote m.abs).1) Ss' ∧ (∃ (y0 : Sl Msg), v = y0.v ∧ FRow rMsg K [] y0 ∧ y0.xs.map Msg.abs = (r.vote m.abs).2) := by
  obtain ⟨xr, Sra, Srb, Src, Srd, rfl, rfl, hora, horb, horc, hord⟩ := hr
  refine PN.of (n := 75) Try.func69 rfl Try.ntmps69 rfl fun I0 L0 hI0 hL0 => ?_
  refine EW_perm (nm_5 _ _ _ _ _ _) ?_
  have hora := hora.mono hI0
  have horb := horb.mono hI0
  have horc := horc.mono hI0
  have hord := hord.mono hI0
  have hm := hm.mono hI0
  have hf0 := hp0
  obtain ⟨hfb, hfl, hft, hid0, hidn, hn5, hlim0, hlim1, hclk0, hclk1, hbt, htrm, hcmt⟩ := hf0
  simp only [Node.abs, List.length_map] at hfb hfl hft hid0 hidn hn5 hlim0 hlim1 hclk0 hclk1 hbt htrm hcmt
  have hltm := NodeP.lastTerm_le hp0
  have hlast : NodeP.last xr.abs = xr.Base + xr.Entries.xs.length := by simp [NodeP.last, Node.abs]
  simp only [Node.abs] at hp1
  simp only [Msg.abs] at hp1
  have hmt := hm.Term
  have hmf := hm.From
  refine EW_seq ?_
  -- region 0  raft.go:314
  refine EW_region ?_
  refine EL_a rfl rfl rfl (oa_box rfl) ?_
  intro b3
  refine EL_s rfl rfl rfl (os_assign rfl) ?_
  refine EL_nil ?_
  refine EQ_then (EQ_wp ?_)
  refine EW_seq ?_
  refine EW_seq ?_
  -- region 1 DRAWN  raft.go:315
  refine EW_drawC [] [⟨[], some 6, [3], .s, 0⟩, ⟨[0], some 7, [6], .s, 1⟩, ⟨[], some 8, [0], .s, 0⟩, ⟨[2], some 9, [8], .s, 4⟩, ⟨[3], some 10, [9], .s, 12⟩, ⟨[4], some 11, [10], .s, 28⟩, ⟨[5], some 12, [11], .s, 60⟩, ⟨[6], some 13, [12], .s, 124⟩, ⟨[1, 7], some 14, [7, 13], .s, 255⟩] [.s, .s, .s, .s, .s, .s, .s, .s, .s] [0, 1, 2, 3, 4, 5, 6, 7, 8] mixed (by kernel_rfl) (by kernel_rfl) (by kernel_rfl) rfl rfl ?_
  refine EP_s rfl rfl rfl rfl rfl (by exact (os_field rfl fl41_3)) ?_
  refine EP_s rfl rfl rfl rfl rfl (by exact (os_load_one rfl one22 (cells_own own_head rfl))) ?_
  refine EP_s rfl rfl rfl rfl rfl (by exact (os_move rfl)) ?_
  refine EP_s rfl rfl rfl rfl rfl (by exact (os_nilCheck rfl)) ?_
  refine EP_s rfl rfl rfl rfl rfl (by exact (os_field rfl fl47_0)) ?_
  refine EP_s rfl rfl rfl rfl rfl (by exact (os_field rfl fl36_0)) ?_
  refine EP_s rfl rfl rfl rfl rfl (by exact (os_field rfl fl33_0)) ?_
  refine EP_s rfl rfl rfl rfl rfl (by exact (os_load_one rfl one22 (cells_own (own_tail own_head) rfl))) ?_
  refine EP_s rfl rfl rfl rfl rfl (by exact (os_gtr rfl rfl)) ?_
  refine EP_nil ?_
  refine EQ_then (EQ_wp ?_)
  refine EW_cond rfl (fun hc14 => ?_) (fun hc14 => ?_)
  · have hb14 := hc14
    try simp only [Bool.or_eq_true, Bool.and_eq_true, Bool.or_eq_false_iff, Bool.and_eq_false_iff, decide_eq_true_eq, decide_eq_false_iff_not, Bool.not_eq_true', Bool.not_eq_false', Int.natCast_inj, Int.ofNat_lt, Int.ofNat_le] at hc14
    -- region 2  raft.go:316
    refine EW_region ?_
    refine EL_s rfl rfl rfl (os_move rfl) ?_
    refine EL_s rfl rfl rfl (os_field rfl fl41_3) ?_
    refine EL_s rfl rfl rfl (os_load_one rfl one22 (cells_own own_head rfl)) ?_
    refine EL_x rfl rfl (ox_callN (vs := [(.pointer (some ⟨br, 0, none⟩)), (.int .u64 ((m.Term : Nat) : Int)), (.int .i64 (-1))]) body109 rfl (pl_1_5 _ _ _ _ _ _ _) (n_follow (NodeAt.intro xr hora horb horc hord) m.Term (-1))) ?_
    rintro I18 L18 v18 hI18 ⟨Ss18, rfl, ⟨x18, S18a, S18b, S18c, S18d, hx18, rfl, ho18a, ho18b, ho18c, ho18d⟩, rfl⟩
    refine EL_perm (nm_5 _ _ _ _ _ _) ?_
    refine EL_nil ?_
    refine EQ_then (EQ_wp ?_)
    refine EW_seq ?_
    -- region 3 DRAWN  raft.go:318
    refine EW_drawC [] [⟨[], some 19, [3], .s, 0⟩, ⟨[0], some 20, [19], .s, 1⟩, ⟨[], some 21, [0], .s, 0⟩, ⟨[2], some 22, [21], .s, 4⟩, ⟨[3], some 23, [22], .s, 12⟩, ⟨[4], some 24, [23], .s, 28⟩, ⟨[5], some 25, [24], .s, 60⟩, ⟨[6], some 26, [25], .s, 124⟩, ⟨[1, 7], some 27, [20, 26], .s, 255⟩, ⟨[8], some 28, [27], .s, 511⟩, ⟨[9], some 29, [0, 28], .s, 1023⟩, ⟨[10, 9], some 30, [29, 28], .s, 2047⟩, ⟨[11, 9], some 31, [30, 28], .s, 4095⟩, ⟨[12, 9], some 32, [31, 28], .s, 8191⟩, ⟨[13, 9], some 33, [32, 28], .s, 16383⟩, ⟨[14, 9], some 34, [33, 28], .s, 32767⟩, ⟨[15, 9], some 35, [34, 28], .s, 65535⟩, ⟨[16, 9, 9], some 36, [35, 28], .s, 131071⟩, ⟨[17], some 37, [0, 36], .s, 262143⟩, ⟨[18, 17], some 38, [37, 36], .s, 524287⟩, ⟨[19, 17], some 39, [38, 36], .s, 1048575⟩, ⟨[20, 17], some 40, [39, 36], .s, 2097151⟩, ⟨[21, 17], some 41, [40, 36], .s, 4194303⟩, ⟨[22, 17], some 42, [41, 36], .s, 8388607⟩, ⟨[17], some 43, [3, 36], .s, 262143⟩, ⟨[24, 17], some 44, [43, 36], .s, 17039359⟩, ⟨[23, 25, 17], some 45, [42, 44, 36], .s, 67108863⟩, ⟨[17, 26, 9], some 46, [36, 45, 28], .s, 134217727⟩, ⟨[9, 27], some 47, [28, 46], .s, 268435455⟩, ⟨[28, 17], some 48, [47], .s, 536870911⟩, ⟨[29], some 49, [0, 48], .s, 1073741823⟩, ⟨[29], some 50, [3, 48], .s, 1073741823⟩, ⟨[30, 31, 29, 29], some 51, [49, 50, 48], .s, 4294967295⟩, ⟨[29, 32], some 52, [48, 51], .s, 8589934591⟩, ⟨[33, 32, 0, 1, 2, 3, 4, 5, 6, 7, 8, 9, 10, 11, 12, 13, 14, 15, 16, 17, 18, 19, 20, 21, 22, 23, 24, 25, 26, 27, 28, 29, 30, 31, 32, 33], some 5, [52], .s, 17179869183⟩] [.s, .s, .s, .s, .s, .s, .s, .s, .s, .s, .s, .s, .s, .s, .s, .s, .s, .s, .s, .s, .s, .s, .s, .s, .s, .s, .s, .s, .s, .s, .s, .s, .s, .s, .s] [0, 1, 2, 3, 4, 5, 6, 7, 8, 9, 10, 11, 12, 13, 14, 15, 16, 17, 18, 19, 20, 21, 22, 23, 24, 25, 26, 27, 28, 29, 30, 31, 32, 33, 34] mixed (by kernel_rfl) (by kernel_rfl) (by kernel_rfl) rfl rfl ?_
    have hnw : xr.abs.newer m.abs = Node.abs x18 := by rw [NodeP.newer]; first | exact (if_pos (show xr.abs.Term < m.abs.Term from hc14)).trans hx18.symm | exact if_neg (show ¬ xr.abs.Term < m.abs.Term from (by show ¬ xr.Term < m.Term; omega))
    have hfw : NodeP.Few (Node.abs x18) := hnw ▸ hp0.newer hp2
    have hfwt := hfw.term
    simp only [Node.abs] at hfwt
    refine EP_s rfl rfl rfl rfl rfl (by exact (os_field rfl fl41_3)) ?_
    refine EP_s rfl rfl rfl rfl rfl (by exact (os_load_one rfl one22 (cells_own (own_tail (own_tail (own_tail (own_tail (own_tail own_head))))) rfl))) ?_
    refine EP_s rfl rfl rfl rfl rfl (by exact (os_move rfl)) ?_
    refine EP_s rfl rfl rfl rfl rfl (by exact (os_nilCheck rfl)) ?_
    refine EP_s rfl rfl rfl rfl rfl (by exact (os_field rfl fl47_0)) ?_
    refine EP_s rfl rfl rfl rfl rfl (by exact (os_field rfl fl36_0)) ?_
    refine EP_s rfl rfl rfl rfl rfl (by exact (os_field rfl fl33_0)) ?_
    refine EP_s rfl rfl rfl rfl rfl (by exact (os_load_one rfl one22 (cells_own own_head rfl))) ?_
    refine EP_s rfl rfl rfl rfl rfl (by exact (os_eql rfl rfl)) ?_
    refine EP_s rfl rfl rfl rfl rfl (by exact (os_move rfl)) ?_
    refine EP_joint 19 47 (.bool ((decide (((m.Term : Nat) : Int) = ((x18.Term : Nat) : Int))) && ((decide (x18.Vote = (-1))) || (decide (x18.Vote = m.From))))) [10, 11, 12, 13, 14, 15, 16, 17, 18, 19, 20, 21, 22, 23, 24, 25, 26, 27, 28] rfl rfl rfl ?_ ?_
    · skip
      refine ES_case (decide (((m.Term : Nat) : Int) = ((x18.Term : Nat) : Int))) (fun hg28 => ?_) (fun hg28 => ?_)
      · have hg28_ := hg28
        try simp only [Bool.or_eq_true, Bool.and_eq_true, Bool.or_eq_false_iff, Bool.and_eq_false_iff, decide_eq_true_eq, decide_eq_false_iff_not, Bool.not_eq_true', Bool.not_eq_false', Int.natCast_inj, Int.ofNat_lt, Int.ofNat_le] at hg28_
        refine ES_yes (j := 9) (b := true) rfl rfl rfl hg28 rfl rfl (os_move rfl) ?_
        refine ES_yes (j := 9) (b := true) rfl rfl rfl hg28 rfl rfl (os_nilCheck rfl) ?_
        refine ES_yes (j := 9) (b := true) rfl rfl rfl hg28 rfl rfl (os_field rfl fl47_0) ?_
        refine ES_yes (j := 9) (b := true) rfl rfl rfl hg28 rfl rfl (os_field rfl fl36_0) ?_
        refine ES_yes (j := 9) (b := true) rfl rfl rfl hg28 rfl rfl (os_field rfl fl33_1) ?_
        refine ES_yes (j := 9) (b := true) rfl rfl rfl hg28 rfl rfl (os_load_one rfl one3 (cells_own own_head rfl)) ?_
        refine ES_yes (j := 9) (b := true) rfl rfl rfl hg28 rfl rfl (os_eql rfl rfl) ?_
        refine ES_yes (j := 9) (b := true) rfl rfl rfl hg28 rfl rfl (os_move rfl) ?_
        refine ES_case (decide (x18.Vote = (-1))) (fun hg36 => ?_) (fun hg36 => ?_)
        · have hg36_ := hg36
          try simp only [Bool.or_eq_true, Bool.and_eq_true, Bool.or_eq_false_iff, Bool.and_eq_false_iff, decide_eq_true_eq, decide_eq_false_iff_not, Bool.not_eq_true', Bool.not_eq_false', Int.natCast_inj, Int.ofNat_lt, Int.ofNat_le] at hg36_
          refine ES_no rfl hg36 rfl rfl rfl rfl ?_
          refine ES_no rfl hg36 rfl rfl rfl rfl ?_
          refine ES_no rfl hg36 rfl rfl rfl rfl ?_
          refine ES_no rfl hg36 rfl rfl rfl rfl ?_
          refine ES_no rfl hg36 rfl rfl rfl rfl ?_
          refine ES_no rfl hg36 rfl rfl rfl rfl ?_
          refine ES_no rfl hg36 rfl rfl rfl rfl ?_
          refine ES_no rfl hg36 rfl rfl rfl rfl ?_
          refine ES_no rfl hg36 rfl rfl rfl rfl ?_
          refine ES_yes (j := 9) (b := true) rfl rfl rfl hg28 rfl rfl (os_pick_t' rfl hg36 rfl) ?_
          refine ES_s rfl rfl rfl (os_pick_t' rfl hg28 rfl) ?_
          exact ES_fin 19 rfl rfl (by rw [hg28, hg36]; rfl)
        · have hg36_ := hg36
          try simp only [Bool.or_eq_true, Bool.and_eq_true, Bool.or_eq_false_iff, Bool.and_eq_false_iff, decide_eq_true_eq, decide_eq_false_iff_not, Bool.not_eq_true', Bool.not_eq_false', Int.natCast_inj, Int.ofNat_lt, Int.ofNat_le] at hg36_
          refine ES_yes (j := 17) (b := false) rfl rfl rfl hg36 rfl rfl (os_move rfl) ?_
          refine ES_yes (j := 17) (b := false) rfl rfl rfl hg36 rfl rfl (os_nilCheck rfl) ?_
          refine ES_yes (j := 17) (b := false) rfl rfl rfl hg36 rfl rfl (os_field rfl fl47_0) ?_
          refine ES_yes (j := 17) (b := false) rfl rfl rfl hg36 rfl rfl (os_field rfl fl36_0) ?_
          refine ES_yes (j := 17) (b := false) rfl rfl rfl hg36 rfl rfl (os_field rfl fl33_1) ?_
          refine ES_yes (j := 17) (b := false) rfl rfl rfl hg36 rfl rfl (os_load_one rfl one3 (cells_own own_head rfl)) ?_
          refine ES_yes (j := 17) (b := false) rfl rfl rfl hg36 rfl rfl (os_field rfl fl41_1) ?_
          refine ES_yes (j := 17) (b := false) rfl rfl rfl hg36 rfl rfl (os_load_one rfl one3 (cells_own (own_tail (own_tail (own_tail (own_tail (own_tail own_head))))) rfl)) ?_
          refine ES_yes (j := 17) (b := false) rfl rfl rfl hg36 rfl rfl (os_eql rfl rfl) ?_
          refine ES_yes (j := 9) (b := true) rfl rfl rfl hg28 rfl rfl (os_pick_f' rfl hg36 rfl) ?_
          refine ES_s rfl rfl rfl (os_pick_t' rfl hg28 rfl) ?_
          exact ES_fin 19 rfl rfl (by rw [hg28, hg36]; rfl)
      · have hg28_ := hg28
        try simp only [Bool.or_eq_true, Bool.and_eq_true, Bool.or_eq_false_iff, Bool.and_eq_false_iff, decide_eq_true_eq, decide_eq_false_iff_not, Bool.not_eq_true', Bool.not_eq_false', Int.natCast_inj, Int.ofNat_lt, Int.ofNat_le] at hg28_
        refine ES_no rfl hg28 rfl rfl rfl rfl ?_
        refine ES_no rfl hg28 rfl rfl rfl rfl ?_
        refine ES_no rfl hg28 rfl rfl rfl rfl ?_
        refine ES_no rfl hg28 rfl rfl rfl rfl ?_
        refine ES_no rfl hg28 rfl rfl rfl rfl ?_
        refine ES_no rfl hg28 rfl rfl rfl rfl ?_
        refine ES_no rfl hg28 rfl rfl rfl rfl ?_
        refine ES_no rfl hg28 rfl rfl rfl rfl ?_
        refine ES_nou rfl rfl rfl rfl rfl ?_
        refine ES_nou rfl rfl rfl rfl rfl ?_
        refine ES_nou rfl rfl rfl rfl rfl ?_
        refine ES_nou rfl rfl rfl rfl rfl ?_
        refine ES_nou rfl rfl rfl rfl rfl ?_
        refine ES_nou rfl rfl rfl rfl rfl ?_
        refine ES_nou rfl rfl rfl rfl rfl ?_
        refine ES_nou rfl rfl rfl rfl rfl ?_
        refine ES_nou rfl rfl rfl rfl rfl ?_
        refine ES_no rfl hg28 rfl rfl rfl rfl ?_
        refine ES_s rfl rfl rfl (os_pick_f' rfl hg28 rfl) ?_
        exact ES_fin 19 rfl rfl (by rw [hg28]; rfl)
    refine EP_s rfl rfl rfl rfl rfl (by exact (os_move rfl)) ?_
    refine EP_joint 4 52 (.bool (((decide (((m.Term : Nat) : Int) = ((x18.Term : Nat) : Int))) && ((decide (x18.Vote = (-1))) || (decide (x18.Vote = m.From)))) && ((x18.abs).upToDate m.abs))) [30, 31, 32, 33] rfl rfl rfl ?_ ?_
    · skip
      refine ES_case ((decide (((m.Term : Nat) : Int) = ((x18.Term : Nat) : Int))) && ((decide (x18.Vote = (-1))) || (decide (x18.Vote = m.From)))) (fun hg48 => ?_) (fun hg48 => ?_)
      · have hg48_ := hg48
        try simp only [Bool.or_eq_true, Bool.and_eq_true, Bool.or_eq_false_iff, Bool.and_eq_false_iff, decide_eq_true_eq, decide_eq_false_iff_not, Bool.not_eq_true', Bool.not_eq_false', Int.natCast_inj, Int.ofNat_lt, Int.ofNat_le] at hg48_
        refine ES_yes (j := 29) (b := true) rfl rfl rfl hg48 rfl rfl (os_move rfl) ?_
        refine ES_yes (j := 29) (b := true) rfl rfl rfl hg48 rfl rfl (os_load_agg (cs := [_, _, _, _, _, _, _, _, _, _]) rfl agg41 (cells_own (own_tail (own_tail (own_tail (own_tail (own_tail own_head))))) rfl)) ?_
        refine ES_yes (j := 29) (b := true) rfl rfl rfl hg48 rfl rfl (os_call (vs := [(.pointer (some ⟨br, 0, none⟩)), (.agg (m.cells).toArray)]) body66 rfl (n_upToDate (NodeAt.intro x18 ho18a ho18b ho18c ho18d) (incl_mid [] [_, _, _, _, _] _) (hm.mono hI18) (by exact hfw))) ?_
        refine ES_s rfl rfl rfl (os_pick_t' rfl hg48 rfl) ?_
        exact ES_fin 4 rfl rfl (by rw [hg48]; rfl)
      · have hg48_ := hg48
        try simp only [Bool.or_eq_true, Bool.and_eq_true, Bool.or_eq_false_iff, Bool.and_eq_false_iff, decide_eq_true_eq, decide_eq_false_iff_not, Bool.not_eq_true', Bool.not_eq_false', Int.natCast_inj, Int.ofNat_lt, Int.ofNat_le] at hg48_
        refine ES_no rfl hg48 rfl rfl rfl rfl ?_
        refine ES_no rfl hg48 rfl rfl rfl rfl ?_
        refine ES_no rfl hg48 rfl rfl rfl rfl ?_
        refine ES_s rfl rfl rfl (os_pick_f' rfl hg48 rfl) ?_
        exact ES_fin 4 rfl rfl (by rw [hg48]; rfl)
    refine EP_s rfl rfl rfl rfl rfl (by exact (os_assign rfl)) ?_
    refine EP_nil ?_
    refine EQ_then (EQ_wp ?_)
    refine EW_seq ?_
    refine EW_seq ?_
    -- region 4  raft.go:319
    refine EW_region ?_
    refine EL_s rfl rfl rfl (os_move rfl) ?_
    refine EL_nil ?_
    refine EQ_then (EQ_wp ?_)
    refine EW_cond rfl (fun hc53 => ?_) (fun hc53 => ?_)
    · have hb53 := hc53
      try simp only [Bool.or_eq_true, Bool.and_eq_true, Bool.or_eq_false_iff, Bool.and_eq_false_iff, decide_eq_true_eq, decide_eq_false_iff_not, Bool.not_eq_true', Bool.not_eq_false', Int.natCast_inj, Int.ofNat_lt, Int.ofNat_le] at hc53
      -- region 5  raft.go:320
      refine EW_region ?_
      refine EL_s rfl rfl rfl (os_move rfl) ?_
      refine EL_s rfl rfl rfl (os_move rfl) ?_
      refine EL_s rfl rfl rfl (os_field rfl fl41_1) ?_
      refine EL_s rfl rfl rfl (os_load_one rfl one3 (cells_own (own_tail (own_tail (own_tail (own_tail (own_tail own_head))))) rfl)) ?_
      refine EL_s rfl rfl rfl (os_nilCheck rfl) ?_
      refine EL_s rfl rfl rfl (os_field rfl fl47_0) ?_
      refine EL_s rfl rfl rfl (os_field rfl fl36_0) ?_
      refine EL_s rfl rfl rfl (os_field rfl fl33_1) ?_
      refine EL_u rfl rfl (ox_store rfl rfl sz3 rfl (by rfl) (.head .head)) ?_
      refine EL_s rfl rfl rfl (os_nilCheck rfl) ?_
      refine EL_s rfl rfl rfl (os_field rfl fl47_7) ?_
      refine EL_u rfl rfl (ox_store rfl rfl sz3 rfl (by rfl) (.head .head)) ?_
      refine EL_nil ?_
      refine EQ_then (EQ_wp ?_)
      refine EW_seq ?_
      -- region 6 DRAWN  raft.go:322
      refine EW_drawC [] [⟨[], some 64, [0], .s, 0⟩, ⟨[], some 65, [3], .s, 0⟩, ⟨[], some 66, [0], .s, 0⟩, ⟨[2], some 67, [66], .s, 4⟩, ⟨[3], some 68, [67], .s, 12⟩, ⟨[4], some 69, [68], .s, 28⟩, ⟨[5], some 70, [69], .s, 60⟩, ⟨[6], some 71, [70], .s, 124⟩, ⟨[], some 72, [5], .s, 0⟩, ⟨[7, 8], some 73, [71, 72], .s, 508⟩, ⟨[0, 1, 9], some 74, [64, 65, 73], .g, 1023⟩, ⟨[10, 10, 0, 1, 2, 3, 4, 5, 6, 7, 8, 9, 10], some 4, [74], .s, 2047⟩] [.s, .s, .s, .s, .s, .s, .s, .s, .s, .s, .g, .s] [0, 1, 2, 3, 4, 5, 6, 7, 8, 9, 10, 11] mixed (by kernel_rfl) (by kernel_rfl) (by kernel_rfl) rfl rfl ?_
      have hgq : (((decide (((m.Term : Nat) : Int) = ((x18.Term : Nat) : Int))) && ((decide (x18.Vote = (-1))) || (decide (x18.Vote = m.From)))) && ((x18.abs).upToDate m.abs)) = (xr.abs.newer m.abs).grants m.abs := by rw [hnw, Bool.eq_iff_iff]; simp only [NodeP.grants, Bool.and_eq_true, Bool.or_eq_true, decide_eq_true_eq, Int.natCast_inj]; exact Iff.rfl
      rw [hgq] at hb53
      refine EP_s rfl rfl rfl rfl rfl (by exact (os_move rfl)) ?_
      refine EP_s rfl rfl rfl rfl rfl (by exact (os_load_agg (cs := [_, _, _, _, _, _, _, _, _, _]) rfl agg41 (cells_own (own_tail (own_tail (own_tail (own_tail (own_tail own_head))))) rfl))) ?_
      refine EP_s rfl rfl rfl rfl rfl (by exact (os_move rfl)) ?_
      refine EP_s rfl rfl rfl rfl rfl (by exact (os_nilCheck rfl)) ?_
      refine EP_s rfl rfl rfl rfl rfl (by exact (os_field rfl fl47_0)) ?_
      refine EP_s rfl rfl rfl rfl rfl (by exact (os_field rfl fl36_0)) ?_
      refine EP_s rfl rfl rfl rfl rfl (by exact (os_field rfl fl33_0)) ?_
      refine EP_s rfl rfl rfl rfl rfl (by exact (os_load_one rfl one22 (cells_own own_head rfl))) ?_
      refine EP_s rfl rfl rfl rfl rfl (by exact (os_move rfl)) ?_
      refine EP_s rfl rfl rfl rfl rfl (by exact (os_struct (cs := [_, _, _, _, _, _, _, _, _, _]) [(0, _), (3, _), (8, _)] pl41 z41 rfl rfl)) ?_
      have hr_a74_2 : Msg.Ok I18 (Msg.mk 4 0 0 x18.Term 0 0 0 (Sl.mk (Hd.mk none 0 0) []) (((decide (((m.Term : Nat) : Int) = ((x18.Term : Nat) : Int))) && ((decide (x18.Vote = (-1))) || (decide (x18.Vote = m.From)))) && ((x18.abs).upToDate m.abs)) (Sl.mk (Hd.mk none 0 0) [])) := ⟨(by first | omega | (dsimp only; omega)), (by first | omega | (dsimp only; omega)), (by first | omega | (dsimp only; omega)), (by first | omega | (dsimp only; omega)), (by first | omega | (dsimp only; omega)), (by first | omega | (dsimp only; omega)), (by first | omega | (dsimp only; omega)), (FRow.none _ _ _), (FRow.none _ _ _)⟩
      refine EP_g rfl rfl rfl rfl rfl (by exact (og_call (vs := [(.pointer (some ⟨br, 0, none⟩)), (.agg (m.cells).toArray), .agg ((Msg.mk 4 0 0 x18.Term 0 0 0 (Sl.mk (Hd.mk none 0 0) []) (((decide (((m.Term : Nat) : Int) = ((x18.Term : Nat) : Int))) && ((decide (x18.Vote = (-1))) || (decide (x18.Vote = m.From)))) && ((x18.abs).upToDate m.abs)) (Sl.mk (Hd.mk none 0 0) [])).cells).toArray]) body67 rfl (n_answer (NodeAt.intro (Node.mk x18.Term m.From x18.Base x18.BaseTerm x18.Entries x18.id x18.n x18.limit x18.role x18.lead x18.commit 0 x18.votes x18.match_ x18.next) ho18a ho18b ho18c ho18d) (incl_mid [] [_, _, _, _, _] _) (hm.mono hI18) hr_a74_2 (by first | (simp only [Node.abs]; omega) | (have h1 := hfw.id0; have h2 := hfw.idn; have h3 := hfw.n5; simp only [Node.abs] at h1 h2 h3 ⊢; omega))))) ?_
      intro I74 v74 hI74 hv74
      obtain ⟨y74, rfl, hy74, hay74⟩ := hv74
      refine EP_s rfl rfl rfl rfl rfl (by exact (os_assign rfl)) ?_
      refine EP_nil ?_
      refine EQ_then (EQ_wp ?_)
      refine EW_ret ?_
      exact pn_ret1 [_, _, _, _, _] Try.results69 (rv_tmp rfl) (hI18.trans hI74) (Incl.cons (Incl.cons (Incl.cons (Incl.cons (Incl.cons (Incl.skip (Incl.refl _) _) _) _) _) _) _) ⟨(NodeAt.to (Node.mk x18.Term m.From x18.Base x18.BaseTerm x18.Entries x18.id x18.n x18.limit x18.role x18.lead x18.commit 0 x18.votes x18.match_ x18.next) (ho18a.mono hI74) (ho18b.mono hI74) (ho18c.mono hI74) (ho18d.mono hI74) (by rw [NodeP.vote]; first | (refine Eq.trans ?_ (if_pos hb53).symm; rw [hnw]; done) | (refine Eq.trans ?_ (if_pos hb53).symm; rw [hnw]; rfl) | (rw [hay74, hgq, hnw]; rfl))), ⟨y74, rfl, (FRow.mono hy74 (.refl _) (.refl _)), (by rw [NodeP.vote]; first | (refine Eq.trans ?_ (if_pos hb53).symm; rw [hnw]; done) | (refine Eq.trans ?_ (if_pos hb53).symm; rw [hnw]; rfl) | (rw [hay74, hgq, hnw]; rfl))⟩⟩ (.inl rfl)
    · have hb53 := hc53
      try simp only [Bool.or_eq_true, Bool.and_eq_true, Bool.or_eq_false_iff, Bool.and_eq_false_iff, decide_eq_true_eq, decide_eq_false_iff_not, Bool.not_eq_true', Bool.not_eq_false', Int.natCast_inj, Int.ofNat_lt, Int.ofNat_le] at hc53
      refine EW_skip ?_
      refine EQ_then (EQ_wp ?_)
      refine EW_seq ?_
      -- region 6 DRAWN  raft.go:322
      refine EW_drawC [] [⟨[], some 64, [0], .s, 0⟩, ⟨[], some 65, [3], .s, 0⟩, ⟨[], some 66, [0], .s, 0⟩, ⟨[2], some 67, [66], .s, 4⟩, ⟨[3], some 68, [67], .s, 12⟩, ⟨[4], some 69, [68], .s, 28⟩, ⟨[5], some 70, [69], .s, 60⟩, ⟨[6], some 71, [70], .s, 124⟩, ⟨[], some 72, [5], .s, 0⟩, ⟨[7, 8], some 73, [71, 72], .s, 508⟩, ⟨[0, 1, 9], some 74, [64, 65, 73], .g, 1023⟩, ⟨[10, 10, 0, 1, 2, 3, 4, 5, 6, 7, 8, 9, 10], some 4, [74], .s, 2047⟩] [.s, .s, .s, .s, .s, .s, .s, .s, .s, .s, .g, .s] [0, 1, 2, 3, 4, 5, 6, 7, 8, 9, 10, 11] mixed (by kernel_rfl) (by kernel_rfl) (by kernel_rfl) rfl rfl ?_
      have hgq : (((decide (((m.Term : Nat) : Int) = ((x18.Term : Nat) : Int))) && ((decide (x18.Vote = (-1))) || (decide (x18.Vote = m.From)))) && ((x18.abs).upToDate m.abs)) = (xr.abs.newer m.abs).grants m.abs := by rw [hnw, Bool.eq_iff_iff]; simp only [NodeP.grants, Bool.and_eq_true, Bool.or_eq_true, decide_eq_true_eq, Int.natCast_inj]; exact Iff.rfl
      rw [hgq] at hb53
      refine EP_s rfl rfl rfl rfl rfl (by exact (os_move rfl)) ?_
      refine EP_s rfl rfl rfl rfl rfl (by exact (os_load_agg (cs := [_, _, _, _, _, _, _, _, _, _]) rfl agg41 (cells_own (own_tail (own_tail (own_tail (own_tail (own_tail own_head))))) rfl))) ?_
      refine EP_s rfl rfl rfl rfl rfl (by exact (os_move rfl)) ?_
      refine EP_s rfl rfl rfl rfl rfl (by exact (os_nilCheck rfl)) ?_
      refine EP_s rfl rfl rfl rfl rfl (by exact (os_field rfl fl47_0)) ?_
      refine EP_s rfl rfl rfl rfl rfl (by exact (os_field rfl fl36_0)) ?_
      refine EP_s rfl rfl rfl rfl rfl (by exact (os_field rfl fl33_0)) ?_
      refine EP_s rfl rfl rfl rfl rfl (by exact (os_load_one rfl one22 (cells_own own_head rfl))) ?_
      refine EP_s rfl rfl rfl rfl rfl (by exact (os_move rfl)) ?_
      refine EP_s rfl rfl rfl rfl rfl (by exact (os_struct (cs := [_, _, _, _, _, _, _, _, _, _]) [(0, _), (3, _), (8, _)] pl41 z41 rfl rfl)) ?_
      have hr_a74_2 : Msg.Ok I18 (Msg.mk 4 0 0 x18.Term 0 0 0 (Sl.mk (Hd.mk none 0 0) []) (((decide (((m.Term : Nat) : Int) = ((x18.Term : Nat) : Int))) && ((decide (x18.Vote = (-1))) || (decide (x18.Vote = m.From)))) && ((x18.abs).upToDate m.abs)) (Sl.mk (Hd.mk none 0 0) [])) := ⟨(by first | omega | (dsimp only; omega)), (by first | omega | (dsimp only; omega)), (by first | omega | (dsimp only; omega)), (by first | omega | (dsimp only; omega)), (by first | omega | (dsimp only; omega)), (by first | omega | (dsimp only; omega)), (by first | omega | (dsimp only; omega)), (FRow.none _ _ _), (FRow.none _ _ _)⟩
      refine EP_g rfl rfl rfl rfl rfl (by exact (og_call (vs := [(.pointer (some ⟨br, 0, none⟩)), (.agg (m.cells).toArray), .agg ((Msg.mk 4 0 0 x18.Term 0 0 0 (Sl.mk (Hd.mk none 0 0) []) (((decide (((m.Term : Nat) : Int) = ((x18.Term : Nat) : Int))) && ((decide (x18.Vote = (-1))) || (decide (x18.Vote = m.From)))) && ((x18.abs).upToDate m.abs)) (Sl.mk (Hd.mk none 0 0) [])).cells).toArray]) body67 rfl (n_answer (NodeAt.intro x18 ho18a ho18b ho18c ho18d) (incl_mid [] [_, _, _, _, _] _) (hm.mono hI18) hr_a74_2 (by first | (simp only [Node.abs]; omega) | (have h1 := hfw.id0; have h2 := hfw.idn; have h3 := hfw.n5; simp only [Node.abs] at h1 h2 h3 ⊢; omega))))) ?_
      intro I74 v74 hI74 hv74
      obtain ⟨y74, rfl, hy74, hay74⟩ := hv74
      refine EP_s rfl rfl rfl rfl rfl (by exact (os_assign rfl)) ?_
      refine EP_nil ?_
      refine EQ_then (EQ_wp ?_)
      refine EW_ret ?_
      exact pn_ret1 [_, _, _, _, _] Try.results69 (rv_tmp rfl) (hI18.trans hI74) (Incl.cons (Incl.cons (Incl.cons (Incl.cons (Incl.cons (Incl.skip (Incl.refl _) _) _) _) _) _) _) ⟨(NodeAt.to x18 (ho18a.mono hI74) (ho18b.mono hI74) (ho18c.mono hI74) (ho18d.mono hI74) (by rw [NodeP.vote]; first | (refine Eq.trans ?_ (if_neg (ne_true_of_eq_false hb53)).symm; rw [hnw]; done) | (refine Eq.trans ?_ (if_neg (ne_true_of_eq_false hb53)).symm; rw [hnw]; rfl) | (rw [hay74, hgq, hnw]; rfl))), ⟨y74, rfl, (FRow.mono hy74 (.refl _) (.refl _)), (by rw [NodeP.vote]; first | (refine Eq.trans ?_ (if_neg (ne_true_of_eq_false hb53)).symm; rw [hnw]; done) | (refine Eq.trans ?_ (if_neg (ne_true_of_eq_false hb53)).symm; rw [hnw]; rfl) | (rw [hay74, hgq, hnw]; rfl))⟩⟩ (.inl rfl)
  · have hb14 := hc14
    try simp only [Bool.or_eq_true, Bool.and_eq_true, Bool.or_eq_false_iff, Bool.and_eq_false_iff, decide_eq_true_eq, decide_eq_false_iff_not, Bool.not_eq_true', Bool.not_eq_false', Int.natCast_inj, Int.ofNat_lt, Int.ofNat_le] at hc14
    refine EW_skip ?_
    refine EQ_then (EQ_wp ?_)
    refine EW_seq ?_
    -- region 3 DRAWN  raft.go:318
    refine EW_drawC [] [⟨[], some 19, [3], .s, 0⟩, ⟨[0], some 20, [19], .s, 1⟩, ⟨[], some 21, [0], .s, 0⟩, ⟨[2], some 22, [21], .s, 4⟩, ⟨[3], some 23, [22], .s, 12⟩, ⟨[4], some 24, [23], .s, 28⟩, ⟨[5], some 25, [24], .s, 60⟩, ⟨[6], some 26, [25], .s, 124⟩, ⟨[1, 7], some 27, [20, 26], .s, 255⟩, ⟨[8], some 28, [27], .s, 511⟩, ⟨[9], some 29, [0, 28], .s, 1023⟩, ⟨[10, 9], some 30, [29, 28], .s, 2047⟩, ⟨[11, 9], some 31, [30, 28], .s, 4095⟩, ⟨[12, 9], some 32, [31, 28], .s, 8191⟩, ⟨[13, 9], some 33, [32, 28], .s, 16383⟩, ⟨[14, 9], some 34, [33, 28], .s, 32767⟩, ⟨[15, 9], some 35, [34, 28], .s, 65535⟩, ⟨[16, 9, 9], some 36, [35, 28], .s, 131071⟩, ⟨[17], some 37, [0, 36], .s, 262143⟩, ⟨[18, 17], some 38, [37, 36], .s, 524287⟩, ⟨[19, 17], some 39, [38, 36], .s, 1048575⟩, ⟨[20, 17], some 40, [39, 36], .s, 2097151⟩, ⟨[21, 17], some 41, [40, 36], .s, 4194303⟩, ⟨[22, 17], some 42, [41, 36], .s, 8388607⟩, ⟨[17], some 43, [3, 36], .s, 262143⟩, ⟨[24, 17], some 44, [43, 36], .s, 17039359⟩, ⟨[23, 25, 17], some 45, [42, 44, 36], .s, 67108863⟩, ⟨[17, 26, 9], some 46, [36, 45, 28], .s, 134217727⟩, ⟨[9, 27], some 47, [28, 46], .s, 268435455⟩, ⟨[28, 17], some 48, [47], .s, 536870911⟩, ⟨[29], some 49, [0, 48], .s, 1073741823⟩, ⟨[29], some 50, [3, 48], .s, 1073741823⟩, ⟨[30, 31, 29, 29], some 51, [49, 50, 48], .s, 4294967295⟩, ⟨[29, 32], some 52, [48, 51], .s, 8589934591⟩, ⟨[33, 32, 0, 1, 2, 3, 4, 5, 6, 7, 8, 9, 10, 11, 12, 13, 14, 15, 16, 17, 18, 19, 20, 21, 22, 23, 24, 25, 26, 27, 28, 29, 30, 31, 32, 33], some 5, [52], .s, 17179869183⟩] [.s, .s, .s, .s, .s, .s, .s, .s, .s, .s, .s, .s, .s, .s, .s, .s, .s, .s, .s, .s, .s, .s, .s, .s, .s, .s, .s, .s, .s, .s, .s, .s, .s, .s, .s] [0, 1, 2, 3, 4, 5, 6, 7, 8, 9, 10, 11, 12, 13, 14, 15, 16, 17, 18, 19, 20, 21, 22, 23, 24, 25, 26, 27, 28, 29, 30, 31, 32, 33, 34] mixed (by kernel_rfl) (by kernel_rfl) (by kernel_rfl) rfl rfl ?_
    have hnw : xr.abs.newer m.abs = Node.abs xr := by rw [NodeP.newer]; first | exact (if_pos (show xr.abs.Term < m.abs.Term from hc14)).trans hx18.symm | exact if_neg (show ¬ xr.abs.Term < m.abs.Term from (by show ¬ xr.Term < m.Term; omega))
    have hfw : NodeP.Few (Node.abs xr) := hnw ▸ hp0.newer hp2
    have hfwt := hfw.term
    simp only [Node.abs] at hfwt
    refine EP_s rfl rfl rfl rfl rfl (by exact (os_field rfl fl41_3)) ?_
    refine EP_s rfl rfl rfl rfl rfl (by exact (os_load_one rfl one22 (cells_own own_head rfl))) ?_
    refine EP_s rfl rfl rfl rfl rfl (by exact (os_move rfl)) ?_
    refine EP_s rfl rfl rfl rfl rfl (by exact (os_nilCheck rfl)) ?_
    refine EP_s rfl rfl rfl rfl rfl (by exact (os_field rfl fl47_0)) ?_
    refine EP_s rfl rfl rfl rfl rfl (by exact (os_field rfl fl36_0)) ?_
    refine EP_s rfl rfl rfl rfl rfl (by exact (os_field rfl fl33_0)) ?_
    refine EP_s rfl rfl rfl rfl rfl (by exact (os_load_one rfl one22 (cells_own (own_tail own_head) rfl))) ?_
    refine EP_s rfl rfl rfl rfl rfl (by exact (os_eql rfl rfl)) ?_
    refine EP_s rfl rfl rfl rfl rfl (by exact (os_move rfl)) ?_
    refine EP_joint 19 47 (.bool ((decide (((m.Term : Nat) : Int) = ((xr.Term : Nat) : Int))) && ((decide (xr.Vote = (-1))) || (decide (xr.Vote = m.From))))) [10, 11, 12, 13, 14, 15, 16, 17, 18, 19, 20, 21, 22, 23, 24, 25, 26, 27, 28] rfl rfl rfl ?_ ?_
    · skip
      refine ES_case (decide (((m.Term : Nat) : Int) = ((xr.Term : Nat) : Int))) (fun hg28 => ?_) (fun hg28 => ?_)
      · have hg28_ := hg28
        try simp only [Bool.or_eq_true, Bool.and_eq_true, Bool.or_eq_false_iff, Bool.and_eq_false_iff, decide_eq_true_eq, decide_eq_false_iff_not, Bool.not_eq_true', Bool.not_eq_false', Int.natCast_inj, Int.ofNat_lt, Int.ofNat_le] at hg28_
        refine ES_yes (j := 9) (b := true) rfl rfl rfl hg28 rfl rfl (os_move rfl) ?_
        refine ES_yes (j := 9) (b := true) rfl rfl rfl hg28 rfl rfl (os_nilCheck rfl) ?_
        refine ES_yes (j := 9) (b := true) rfl rfl rfl hg28 rfl rfl (os_field rfl fl47_0) ?_
        refine ES_yes (j := 9) (b := true) rfl rfl rfl hg28 rfl rfl (os_field rfl fl36_0) ?_
        refine ES_yes (j := 9) (b := true) rfl rfl rfl hg28 rfl rfl (os_field rfl fl33_1) ?_
        refine ES_yes (j := 9) (b := true) rfl rfl rfl hg28 rfl rfl (os_load_one rfl one3 (cells_own (own_tail own_head) rfl)) ?_
        refine ES_yes (j := 9) (b := true) rfl rfl rfl hg28 rfl rfl (os_eql rfl rfl) ?_
        refine ES_yes (j := 9) (b := true) rfl rfl rfl hg28 rfl rfl (os_move rfl) ?_
        refine ES_case (decide (xr.Vote = (-1))) (fun hg36 => ?_) (fun hg36 => ?_)
        · have hg36_ := hg36
          try simp only [Bool.or_eq_true, Bool.and_eq_true, Bool.or_eq_false_iff, Bool.and_eq_false_iff, decide_eq_true_eq, decide_eq_false_iff_not, Bool.not_eq_true', Bool.not_eq_false', Int.natCast_inj, Int.ofNat_lt, Int.ofNat_le] at hg36_
          refine ES_no rfl hg36 rfl rfl rfl rfl ?_
          refine ES_no rfl hg36 rfl rfl rfl rfl ?_
          refine ES_no rfl hg36 rfl rfl rfl rfl ?_
          refine ES_no rfl hg36 rfl rfl rfl rfl ?_
          refine ES_no rfl hg36 rfl rfl rfl rfl ?_
          refine ES_no rfl hg36 rfl rfl rfl rfl ?_
          refine ES_no rfl hg36 rfl rfl rfl rfl ?_
          refine ES_no rfl hg36 rfl rfl rfl rfl ?_
          refine ES_no rfl hg36 rfl rfl rfl rfl ?_
          refine ES_yes (j := 9) (b := true) rfl rfl rfl hg28 rfl rfl (os_pick_t' rfl hg36 rfl) ?_
          refine ES_s rfl rfl rfl (os_pick_t' rfl hg28 rfl) ?_
          exact ES_fin 19 rfl rfl (by rw [hg28, hg36]; rfl)
        · have hg36_ := hg36
          try simp only [Bool.or_eq_true, Bool.and_eq_true, Bool.or_eq_false_iff, Bool.and_eq_false_iff, decide_eq_true_eq, decide_eq_false_iff_not, Bool.not_eq_true', Bool.not_eq_false', Int.natCast_inj, Int.ofNat_lt, Int.ofNat_le] at hg36_
          refine ES_yes (j := 17) (b := false) rfl rfl rfl hg36 rfl rfl (os_move rfl) ?_
          refine ES_yes (j := 17) (b := false) rfl rfl rfl hg36 rfl rfl (os_nilCheck rfl) ?_
          refine ES_yes (j := 17) (b := false) rfl rfl rfl hg36 rfl rfl (os_field rfl fl47_0) ?_
          refine ES_yes (j := 17) (b := false) rfl rfl rfl hg36 rfl rfl (os_field rfl fl36_0) ?_
          refine ES_yes (j := 17) (b := false) rfl rfl rfl hg36 rfl rfl (os_field rfl fl33_1) ?_
          refine ES_yes (j := 17) (b := false) rfl rfl rfl hg36 rfl rfl (os_load_one rfl one3 (cells_own (own_tail own_head) rfl)) ?_
          refine ES_yes (j := 17) (b := false) rfl rfl rfl hg36 rfl rfl (os_field rfl fl41_1) ?_
          refine ES_yes (j := 17) (b := false) rfl rfl rfl hg36 rfl rfl (os_load_one rfl one3 (cells_own own_head rfl)) ?_
          refine ES_yes (j := 17) (b := false) rfl rfl rfl hg36 rfl rfl (os_eql rfl rfl) ?_
          refine ES_yes (j := 9) (b := true) rfl rfl rfl hg28 rfl rfl (os_pick_f' rfl hg36 rfl) ?_
          refine ES_s rfl rfl rfl (os_pick_t' rfl hg28 rfl) ?_
          exact ES_fin 19 rfl rfl (by rw [hg28, hg36]; rfl)
      · have hg28_ := hg28
        try simp only [Bool.or_eq_true, Bool.and_eq_true, Bool.or_eq_false_iff, Bool.and_eq_false_iff, decide_eq_true_eq, decide_eq_false_iff_not, Bool.not_eq_true', Bool.not_eq_false', Int.natCast_inj, Int.ofNat_lt, Int.ofNat_le] at hg28_
        refine ES_no rfl hg28 rfl rfl rfl rfl ?_
        refine ES_no rfl hg28 rfl rfl rfl rfl ?_
        refine ES_no rfl hg28 rfl rfl rfl rfl ?_
        refine ES_no rfl hg28 rfl rfl rfl rfl ?_
        refine ES_no rfl hg28 rfl rfl rfl rfl ?_
        refine ES_no rfl hg28 rfl rfl rfl rfl ?_
        refine ES_no rfl hg28 rfl rfl rfl rfl ?_
        refine ES_no rfl hg28 rfl rfl rfl rfl ?_
        refine ES_nou rfl rfl rfl rfl rfl ?_
        refine ES_nou rfl rfl rfl rfl rfl ?_
        refine ES_nou rfl rfl rfl rfl rfl ?_
        refine ES_nou rfl rfl rfl rfl rfl ?_
        refine ES_nou rfl rfl rfl rfl rfl ?_
        refine ES_nou rfl rfl rfl rfl rfl ?_
        refine ES_nou rfl rfl rfl rfl rfl ?_
        refine ES_nou rfl rfl rfl rfl rfl ?_
        refine ES_nou rfl rfl rfl rfl rfl ?_
        refine ES_no rfl hg28 rfl rfl rfl rfl ?_
        refine ES_s rfl rfl rfl (os_pick_f' rfl hg28 rfl) ?_
        exact ES_fin 19 rfl rfl (by rw [hg28]; rfl)
    refine EP_s rfl rfl rfl rfl rfl (by exact (os_move rfl)) ?_
    refine EP_joint 4 52 (.bool (((decide (((m.Term : Nat) : Int) = ((xr.Term : Nat) : Int))) && ((decide (xr.Vote = (-1))) || (decide (xr.Vote = m.From)))) && ((xr.abs).upToDate m.abs))) [30, 31, 32, 33] rfl rfl rfl ?_ ?_
    · skip
      refine ES_case ((decide (((m.Term : Nat) : Int) = ((xr.Term : Nat) : Int))) && ((decide (xr.Vote = (-1))) || (decide (xr.Vote = m.From)))) (fun hg48 => ?_) (fun hg48 => ?_)
      · have hg48_ := hg48
        try simp only [Bool.or_eq_true, Bool.and_eq_true, Bool.or_eq_false_iff, Bool.and_eq_false_iff, decide_eq_true_eq, decide_eq_false_iff_not, Bool.not_eq_true', Bool.not_eq_false', Int.natCast_inj, Int.ofNat_lt, Int.ofNat_le] at hg48_
        refine ES_yes (j := 29) (b := true) rfl rfl rfl hg48 rfl rfl (os_move rfl) ?_
        refine ES_yes (j := 29) (b := true) rfl rfl rfl hg48 rfl rfl (os_load_agg (cs := [_, _, _, _, _, _, _, _, _, _]) rfl agg41 (cells_own own_head rfl)) ?_
        refine ES_yes (j := 29) (b := true) rfl rfl rfl hg48 rfl rfl (os_call (vs := [(.pointer (some ⟨br, 0, none⟩)), (.agg (m.cells).toArray)]) body66 rfl (n_upToDate (NodeAt.intro xr hora horb horc hord) (incl_mid [_] [_, _, _, _, _] _) hm (by exact hfw))) ?_
        refine ES_s rfl rfl rfl (os_pick_t' rfl hg48 rfl) ?_
        exact ES_fin 4 rfl rfl (by rw [hg48]; rfl)
      · have hg48_ := hg48
        try simp only [Bool.or_eq_true, Bool.and_eq_true, Bool.or_eq_false_iff, Bool.and_eq_false_iff, decide_eq_true_eq, decide_eq_false_iff_not, Bool.not_eq_true', Bool.not_eq_false', Int.natCast_inj, Int.ofNat_lt, Int.ofNat_le] at hg48_
        refine ES_no rfl hg48 rfl rfl rfl rfl ?_
        refine ES_no rfl hg48 rfl rfl rfl rfl ?_
        refine ES_no rfl hg48 rfl rfl rfl rfl ?_
        refine ES_s rfl rfl rfl (os_pick_f' rfl hg48 rfl) ?_
        exact ES_fin 4 rfl rfl (by rw [hg48]; rfl)
    refine EP_s rfl rfl rfl rfl rfl (by exact (os_assign rfl)) ?_
    refine EP_nil ?_
    refine EQ_then (EQ_wp ?_)
    refine EW_seq ?_
    refine EW_seq ?_
    -- region 4  raft.go:319
    refine EW_region ?_
    refine EL_s rfl rfl rfl (os_move rfl) ?_
    refine EL_nil ?_
    refine EQ_then (EQ_wp ?_)
    refine EW_cond rfl (fun hc53 => ?_) (fun hc53 => ?_)
    · have hb53 := hc53
      try simp only [Bool.or_eq_true, Bool.and_eq_true, Bool.or_eq_false_iff, Bool.and_eq_false_iff, decide_eq_true_eq, decide_eq_false_iff_not, Bool.not_eq_true', Bool.not_eq_false', Int.natCast_inj, Int.ofNat_lt, Int.ofNat_le] at hc53
      -- region 5  raft.go:320
      refine EW_region ?_
      refine EL_s rfl rfl rfl (os_move rfl) ?_
      refine EL_s rfl rfl rfl (os_move rfl) ?_
      refine EL_s rfl rfl rfl (os_field rfl fl41_1) ?_
      refine EL_s rfl rfl rfl (os_load_one rfl one3 (cells_own own_head rfl)) ?_
      refine EL_s rfl rfl rfl (os_nilCheck rfl) ?_
      refine EL_s rfl rfl rfl (os_field rfl fl47_0) ?_
      refine EL_s rfl rfl rfl (os_field rfl fl36_0) ?_
      refine EL_s rfl rfl rfl (os_field rfl fl33_1) ?_
      refine EL_u rfl rfl (ox_store rfl rfl sz3 rfl (by rfl) (.tail (.head .head))) ?_
      refine EL_s rfl rfl rfl (os_nilCheck rfl) ?_
      refine EL_s rfl rfl rfl (os_field rfl fl47_7) ?_
      refine EL_u rfl rfl (ox_store rfl rfl sz3 rfl (by rfl) (.tail (.head .head))) ?_
      refine EL_nil ?_
      refine EQ_then (EQ_wp ?_)
      refine EW_seq ?_
      -- region 6 DRAWN  raft.go:322
      refine EW_drawC [] [⟨[], some 64, [0], .s, 0⟩, ⟨[], some 65, [3], .s, 0⟩, ⟨[], some 66, [0], .s, 0⟩, ⟨[2], some 67, [66], .s, 4⟩, ⟨[3], some 68, [67], .s, 12⟩, ⟨[4], some 69, [68], .s, 28⟩, ⟨[5], some 70, [69], .s, 60⟩, ⟨[6], some 71, [70], .s, 124⟩, ⟨[], some 72, [5], .s, 0⟩, ⟨[7, 8], some 73, [71, 72], .s, 508⟩, ⟨[0, 1, 9], some 74, [64, 65, 73], .g, 1023⟩, ⟨[10, 10, 0, 1, 2, 3, 4, 5, 6, 7, 8, 9, 10], some 4, [74], .s, 2047⟩] [.s, .s, .s, .s, .s, .s, .s, .s, .s, .s, .g, .s] [0, 1, 2, 3, 4, 5, 6, 7, 8, 9, 10, 11] mixed (by kernel_rfl) (by kernel_rfl) (by kernel_rfl) rfl rfl ?_
      have hgq : (((decide (((m.Term : Nat) : Int) = ((xr.Term : Nat) : Int))) && ((decide (xr.Vote = (-1))) || (decide (xr.Vote = m.From)))) && ((xr.abs).upToDate m.abs)) = (xr.abs.newer m.abs).grants m.abs := by rw [hnw, Bool.eq_iff_iff]; simp only [NodeP.grants, Bool.and_eq_true, Bool.or_eq_true, decide_eq_true_eq, Int.natCast_inj]; exact Iff.rfl
      rw [hgq] at hb53
      refine EP_s rfl rfl rfl rfl rfl (by exact (os_move rfl)) ?_
      refine EP_s rfl rfl rfl rfl rfl (by exact (os_load_agg (cs := [_, _, _, _, _, _, _, _, _, _]) rfl agg41 (cells_own own_head rfl))) ?_
      refine EP_s rfl rfl rfl rfl rfl (by exact (os_move rfl)) ?_
      refine EP_s rfl rfl rfl rfl rfl (by exact (os_nilCheck rfl)) ?_
      refine EP_s rfl rfl rfl rfl rfl (by exact (os_field rfl fl47_0)) ?_
      refine EP_s rfl rfl rfl rfl rfl (by exact (os_field rfl fl36_0)) ?_
      refine EP_s rfl rfl rfl rfl rfl (by exact (os_field rfl fl33_0)) ?_
      refine EP_s rfl rfl rfl rfl rfl (by exact (os_load_one rfl one22 (cells_own (own_tail own_head) rfl))) ?_
      refine EP_s rfl rfl rfl rfl rfl (by exact (os_move rfl)) ?_
      refine EP_s rfl rfl rfl rfl rfl (by exact (os_struct (cs := [_, _, _, _, _, _, _, _, _, _]) [(0, _), (3, _), (8, _)] pl41 z41 rfl rfl)) ?_
      have hr_a74_2 : Msg.Ok I0 (Msg.mk 4 0 0 xr.Term 0 0 0 (Sl.mk (Hd.mk none 0 0) []) (((decide (((m.Term : Nat) : Int) = ((xr.Term : Nat) : Int))) && ((decide (xr.Vote = (-1))) || (decide (xr.Vote = m.From)))) && ((xr.abs).upToDate m.abs)) (Sl.mk (Hd.mk none 0 0) [])) := ⟨(by first | omega | (dsimp only; omega)), (by first | omega | (dsimp only; omega)), (by first | omega | (dsimp only; omega)), (by first | omega | (dsimp only; omega)), (by first | omega | (dsimp only; omega)), (by first | omega | (dsimp only; omega)), (by first | omega | (dsimp only; omega)), (FRow.none _ _ _), (FRow.none _ _ _)⟩
      refine EP_g rfl rfl rfl rfl rfl (by exact (og_call (vs := [(.pointer (some ⟨br, 0, none⟩)), (.agg (m.cells).toArray), .agg ((Msg.mk 4 0 0 xr.Term 0 0 0 (Sl.mk (Hd.mk none 0 0) []) (((decide (((m.Term : Nat) : Int) = ((xr.Term : Nat) : Int))) && ((decide (xr.Vote = (-1))) || (decide (xr.Vote = m.From)))) && ((xr.abs).upToDate m.abs)) (Sl.mk (Hd.mk none 0 0) [])).cells).toArray]) body67 rfl (n_answer (NodeAt.intro (Node.mk xr.Term m.From xr.Base xr.BaseTerm xr.Entries xr.id xr.n xr.limit xr.role xr.lead xr.commit 0 xr.votes xr.match_ xr.next) hora horb horc hord) (incl_mid [_] [_, _, _, _, _] _) hm hr_a74_2 (by first | (simp only [Node.abs]; omega) | (have h1 := hfw.id0; have h2 := hfw.idn; have h3 := hfw.n5; simp only [Node.abs] at h1 h2 h3 ⊢; omega))))) ?_
      intro I74 v74 hI74 hv74
      obtain ⟨y74, rfl, hy74, hay74⟩ := hv74
      refine EP_s rfl rfl rfl rfl rfl (by exact (os_assign rfl)) ?_
      refine EP_nil ?_
      refine EQ_then (EQ_wp ?_)
      refine EW_ret ?_
      exact pn_ret1 [_, _, _, _, _] Try.results69 (rv_tmp rfl) hI74 (Incl.skip (Incl.cons (Incl.cons (Incl.cons (Incl.cons (Incl.cons (Incl.refl _) _) _) _) _) _) _) ⟨(NodeAt.to (Node.mk xr.Term m.From xr.Base xr.BaseTerm xr.Entries xr.id xr.n xr.limit xr.role xr.lead xr.commit 0 xr.votes xr.match_ xr.next) (hora.mono hI74) (horb.mono hI74) (horc.mono hI74) (hord.mono hI74) (by rw [NodeP.vote]; first | (refine Eq.trans ?_ (if_pos hb53).symm; rw [hnw]; done) | (refine Eq.trans ?_ (if_pos hb53).symm; rw [hnw]; rfl) | (rw [hay74, hgq, hnw]; rfl))), ⟨y74, rfl, (FRow.mono hy74 (.refl _) (.refl _)), (by rw [NodeP.vote]; first | (refine Eq.trans ?_ (if_pos hb53).symm; rw [hnw]; done) | (refine Eq.trans ?_ (if_pos hb53).symm; rw [hnw]; rfl) | (rw [hay74, hgq, hnw]; rfl))⟩⟩ (.inl rfl)
    · have hb53 := hc53
      try simp only [Bool.or_eq_true, Bool.and_eq_true, Bool.or_eq_false_iff, Bool.and_eq_false_iff, decide_eq_true_eq, decide_eq_false_iff_not, Bool.not_eq_true', Bool.not_eq_false', Int.natCast_inj, Int.ofNat_lt, Int.ofNat_le] at hc53
      refine EW_skip ?_
      refine EQ_then (EQ_wp ?_)
      refine EW_seq ?_
      -- region 6 DRAWN  raft.go:322
      refine EW_drawC [] [⟨[], some 64, [0], .s, 0⟩, ⟨[], some 65, [3], .s, 0⟩, ⟨[], some 66, [0], .s, 0⟩, ⟨[2], some 67, [66], .s, 4⟩, ⟨[3], some 68, [67], .s, 12⟩, ⟨[4], some 69, [68], .s, 28⟩, ⟨[5], some 70, [69], .s, 60⟩, ⟨[6], some 71, [70], .s, 124⟩, ⟨[], some 72, [5], .s, 0⟩, ⟨[7, 8], some 73, [71, 72], .s, 508⟩, ⟨[0, 1, 9], some 74, [64, 65, 73], .g, 1023⟩, ⟨[10, 10, 0, 1, 2, 3, 4, 5, 6, 7, 8, 9, 10], some 4, [74], .s, 2047⟩] [.s, .s, .s, .s, .s, .s, .s, .s, .s, .s, .g, .s] [0, 1, 2, 3, 4, 5, 6, 7, 8, 9, 10, 11] mixed (by kernel_rfl) (by kernel_rfl) (by kernel_rfl) rfl rfl ?_
      have hgq : (((decide (((m.Term : Nat) : Int) = ((xr.Term : Nat) : Int))) && ((decide (xr.Vote = (-1))) || (decide (xr.Vote = m.From)))) && ((xr.abs).upToDate m.abs)) = (xr.abs.newer m.abs).grants m.abs := by rw [hnw, Bool.eq_iff_iff]; simp only [NodeP.grants, Bool.and_eq_true, Bool.or_eq_true, decide_eq_true_eq, Int.natCast_inj]; exact Iff.rfl
      rw [hgq] at hb53
      refine EP_s rfl rfl rfl rfl rfl (by exact (os_move rfl)) ?_
      refine EP_s rfl rfl rfl rfl rfl (by exact (os_load_agg (cs := [_, _, _, _, _, _, _, _, _, _]) rfl agg41 (cells_own own_head rfl))) ?_
      refine EP_s rfl rfl rfl rfl rfl (by exact (os_move rfl)) ?_
      refine EP_s rfl rfl rfl rfl rfl (by exact (os_nilCheck rfl)) ?_
      refine EP_s rfl rfl rfl rfl rfl (by exact (os_field rfl fl47_0)) ?_
      refine EP_s rfl rfl rfl rfl rfl (by exact (os_field rfl fl36_0)) ?_
      refine EP_s rfl rfl rfl rfl rfl (by exact (os_field rfl fl33_0)) ?_
      refine EP_s rfl rfl rfl rfl rfl (by exact (os_load_one rfl one22 (cells_own (own_tail own_head) rfl))) ?_
      refine EP_s rfl rfl rfl rfl rfl (by exact (os_move rfl)) ?_
      refine EP_s rfl rfl rfl rfl rfl (by exact (os_struct (cs := [_, _, _, _, _, _, _, _, _, _]) [(0, _), (3, _), (8, _)] pl41 z41 rfl rfl)) ?_
      have hr_a74_2 : Msg.Ok I0 (Msg.mk 4 0 0 xr.Term 0 0 0 (Sl.mk (Hd.mk none 0 0) []) (((decide (((m.Term : Nat) : Int) = ((xr.Term : Nat) : Int))) && ((decide (xr.Vote = (-1))) || (decide (xr.Vote = m.From)))) && ((xr.abs).upToDate m.abs)) (Sl.mk (Hd.mk none 0 0) [])) := ⟨(by first | omega | (dsimp only; omega)), (by first | omega | (dsimp only; omega)), (by first | omega | (dsimp only; omega)), (by first | omega | (dsimp only; omega)), (by first | omega | (dsimp only; omega)), (by first | omega | (dsimp only; omega)), (by first | omega | (dsimp only; omega)), (FRow.none _ _ _), (FRow.none _ _ _)⟩
      refine EP_g rfl rfl rfl rfl rfl (by exact (og_call (vs := [(.pointer (some ⟨br, 0, none⟩)), (.agg (m.cells).toArray), .agg ((Msg.mk 4 0 0 xr.Term 0 0 0 (Sl.mk (Hd.mk none 0 0) []) (((decide (((m.Term : Nat) : Int) = ((xr.Term : Nat) : Int))) && ((decide (xr.Vote = (-1))) || (decide (xr.Vote = m.From)))) && ((xr.abs).upToDate m.abs)) (Sl.mk (Hd.mk none 0 0) [])).cells).toArray]) body67 rfl (n_answer (NodeAt.intro xr hora horb horc hord) (incl_mid [_] [_, _, _, _, _] _) hm hr_a74_2 (by first | (simp only [Node.abs]; omega) | (have h1 := hfw.id0; have h2 := hfw.idn; have h3 := hfw.n5; simp only [Node.abs] at h1 h2 h3 ⊢; omega))))) ?_
      intro I74 v74 hI74 hv74
      obtain ⟨y74, rfl, hy74, hay74⟩ := hv74
      refine EP_s rfl rfl rfl rfl rfl (by exact (os_assign rfl)) ?_
      refine EP_nil ?_
      refine EQ_then (EQ_wp ?_)
      refine EW_ret ?_
      exact pn_ret1 [_, _, _, _, _] Try.results69 (rv_tmp rfl) hI74 (Incl.skip (Incl.cons (Incl.cons (Incl.cons (Incl.cons (Incl.cons (Incl.refl _) _) _) _) _) _) _) ⟨(NodeAt.to xr (hora.mono hI74) (horb.mono hI74) (horc.mono hI74) (hord.mono hI74) (by rw [NodeP.vote]; first | (refine Eq.trans ?_ (if_neg (ne_true_of_eq_false hb53)).symm; rw [hnw]; done) | (refine Eq.trans ?_ (if_neg (ne_true_of_eq_false hb53)).symm; rw [hnw]; rfl) | (rw [hay74, hgq, hnw]; rfl))), ⟨y74, rfl, (FRow.mono hy74 (.refl _) (.refl _)), (by rw [NodeP.vote]; first | (refine Eq.trans ?_ (if_neg (ne_true_of_eq_false hb53)).symm; rw [hnw]; done) | (refine Eq.trans ?_ (if_neg (ne_true_of_eq_false hb53)).symm; rw [hnw]; rfl) | (rw [hay74, hgq, hnw]; rfl))⟩⟩ (.inl rfl)

set_option maxHeartbeats 1000000 in
theorem n_voted {I : Gh} {L : List Seg} {br : Nat} {r : NodeP} {Ssr : List Seg} (hr : NodeAt I br r Ssr) {m : Msg} (hm : Msg.Ok I m) (hp0 : NodeP.Few r) (hp1 : r.Entries.length < 1000000000) (hp2 : r.role = 1 ∨ r.role = 2 → (r.votes.length : Int) = r.n) (hp3 : 0 ≤ m.abs.From ∧ m.abs.From < r.n) (hp4 : m.abs.Term ≤ 4611686018427387904) : PN Try.prog 70 #[.pointer (some ⟨br, 0, none⟩), .agg (m.cells).toArray] I L (Ssr) fun K Ss' v => NodeAt K br ((r.voted m.abs).1) Ss' ∧ (∃ (y0 : Sl Msg), v = y0.v ∧ FRow rMsg K [] y0 ∧ y0.xs.map Msg.abs = (r.voted m.abs).2) := by
  obtain ⟨xr, Sra, Srb, Src, Srd, rfl, rfl, hora, horb, horc, hord⟩ := hr
  refine PN.of (n := 54) Try.func70 rfl Try.ntmps70 rfl fun I0 L0 hI0 hL0 => ?_
  refine EW_perm (nm_5 _ _ _ _ _ _) ?_
  have hora := hora.mono hI0
  have horb := horb.mono hI0
  have horc := horc.mono hI0
  have hord := hord.mono hI0
  have hm := hm.mono hI0
  have hf0 := hp0
  obtain ⟨hfb, hfl, hft, hid0, hidn, hn5, hlim0, hlim1, hclk0, hclk1, hbt, htrm, hcmt⟩ := hf0
  simp only [Node.abs, List.length_map] at hfb hfl hft hid0 hidn hn5 hlim0 hlim1 hclk0 hclk1 hbt htrm hcmt
  have hltm := NodeP.lastTerm_le hp0
  have hlast : NodeP.last xr.abs = xr.Base + xr.Entries.xs.length := by simp [NodeP.last, Node.abs]
  simp only [Node.abs, List.length_map] at hp1
  simp only [Node.abs] at hp2 hp3
  simp only [Msg.abs] at hp3 hp4
  have hmt := hm.Term
  have hmf := hm.From
  refine EW_seq ?_
  -- region 0  raft.go:325
  refine EW_region ?_
  refine EL_a rfl rfl rfl (oa_box rfl) ?_
  intro b3
  refine EL_s rfl rfl rfl (os_assign rfl) ?_
  refine EL_nil ?_
  refine EQ_then (EQ_wp ?_)
  refine EW_seq ?_
  refine EW_seq ?_
  -- region 1 DRAWN  raft.go:326
  refine EW_drawC [] [⟨[], some 5, [3], .s, 0⟩, ⟨[0], some 6, [5], .s, 1⟩, ⟨[], some 7, [0], .s, 0⟩, ⟨[2], some 8, [7], .s, 4⟩, ⟨[3], some 9, [8], .s, 12⟩, ⟨[4], some 10, [9], .s, 28⟩, ⟨[5], some 11, [10], .s, 60⟩, ⟨[6], some 12, [11], .s, 124⟩, ⟨[1, 7], some 13, [6, 12], .s, 255⟩] [.s, .s, .s, .s, .s, .s, .s, .s, .s] [0, 1, 2, 3, 4, 5, 6, 7, 8] mixed (by kernel_rfl) (by kernel_rfl) (by kernel_rfl) rfl rfl ?_
  refine EP_s rfl rfl rfl rfl rfl (by exact (os_field rfl fl41_3)) ?_
  refine EP_s rfl rfl rfl rfl rfl (by exact (os_load_one rfl one22 (cells_own own_head rfl))) ?_
  refine EP_s rfl rfl rfl rfl rfl (by exact (os_move rfl)) ?_
  refine EP_s rfl rfl rfl rfl rfl (by exact (os_nilCheck rfl)) ?_
  refine EP_s rfl rfl rfl rfl rfl (by exact (os_field rfl fl47_0)) ?_
  refine EP_s rfl rfl rfl rfl rfl (by exact (os_field rfl fl36_0)) ?_
  refine EP_s rfl rfl rfl rfl rfl (by exact (os_field rfl fl33_0)) ?_
  refine EP_s rfl rfl rfl rfl rfl (by exact (os_load_one rfl one22 (cells_own (own_tail own_head) rfl))) ?_
  refine EP_s rfl rfl rfl rfl rfl (by exact (os_gtr rfl rfl)) ?_
  refine EP_nil ?_
  refine EQ_then (EQ_wp ?_)
  refine EW_cond rfl (fun hc13 => ?_) (fun hc13 => ?_)
  · have hb13 := hc13
    try simp only [Bool.or_eq_true, Bool.and_eq_true, Bool.or_eq_false_iff, Bool.and_eq_false_iff, decide_eq_true_eq, decide_eq_false_iff_not, Bool.not_eq_true', Bool.not_eq_false', Int.natCast_inj, Int.ofNat_lt, Int.ofNat_le] at hc13
    refine EW_seq ?_
    -- region 2  raft.go:327
    refine EW_region ?_
    refine EL_s rfl rfl rfl (os_move rfl) ?_
    refine EL_s rfl rfl rfl (os_field rfl fl41_3) ?_
    refine EL_s rfl rfl rfl (os_load_one rfl one22 (cells_own own_head rfl)) ?_
    refine EL_x rfl rfl (ox_callN (vs := [(.pointer (some ⟨br, 0, none⟩)), (.int .u64 ((m.Term : Nat) : Int)), (.int .i64 (-1))]) body109 rfl (pl_1_5 _ _ _ _ _ _ _) (n_follow (NodeAt.intro xr hora horb horc hord) m.Term (-1))) ?_
    rintro I17 L17 v17 hI17 ⟨Ss17, rfl, ⟨x17, S17a, S17b, S17c, S17d, hx17, rfl, ho17a, ho17b, ho17c, ho17d⟩, rfl⟩
    refine EL_perm (nm_5 _ _ _ _ _ _) ?_
    refine EL_nil ?_
    refine EQ_then (EQ_wp ?_)
    refine EW_seq ?_
    -- region 3  raft.go:328
    refine EW_region ?_
    refine EL_s rfl rfl rfl (os_assign rfl) ?_
    refine EL_nil ?_
    refine EQ_then (EQ_wp ?_)
    refine EW_ret ?_
    refine EQ_then_ret (?_)
    exact pn_ret1 [_, _, _, _, _] Try.results70 (rv_tmp rfl) hI17 (Incl.cons (Incl.cons (Incl.cons (Incl.cons (Incl.cons (Incl.skip (Incl.refl _) _) _) _) _) _) _) ⟨(NodeAt.to x17 ho17a ho17b ho17c ho17d (by rw [NodeP.voted, if_pos (show xr.abs.Term < m.abs.Term from hc13)]; first | done | rfl | exact hx17)), ⟨(Sl.mk (Hd.mk none 0 0) []), rfl, (FRow.none _ _ _), (by rw [NodeP.voted, if_pos (show xr.abs.Term < m.abs.Term from hc13)]; first | done | rfl | exact hx17)⟩⟩ (.inl rfl)
  · have hb13 := hc13
    try simp only [Bool.or_eq_true, Bool.and_eq_true, Bool.or_eq_false_iff, Bool.and_eq_false_iff, decide_eq_true_eq, decide_eq_false_iff_not, Bool.not_eq_true', Bool.not_eq_false', Int.natCast_inj, Int.ofNat_lt, Int.ofNat_le] at hc13
    refine EW_skip ?_
    refine EQ_then (EQ_wp ?_)
    refine EW_seq ?_
    refine EW_seq ?_
    -- region 4 DRAWN  raft.go:330
    refine EW_drawC [] [⟨[], some 18, [3], .s, 0⟩, ⟨[0], some 19, [18], .s, 1⟩, ⟨[1], some 20, [19], .s, 3⟩, ⟨[2], some 21, [20], .s, 7⟩, ⟨[3], some 22, [0, 21], .s, 15⟩, ⟨[4, 3], some 23, [22, 21], .s, 31⟩, ⟨[5, 3], some 24, [23, 21], .s, 63⟩, ⟨[6, 3], some 25, [24, 21], .s, 127⟩, ⟨[7, 3], some 26, [25, 21], .s, 255⟩, ⟨[3, 8], some 27, [21, 26], .s, 511⟩, ⟨[9, 3], some 28, [27], .s, 1023⟩, ⟨[10], some 29, [3, 28], .s, 2047⟩, ⟨[11, 10], some 30, [29, 28], .s, 4095⟩, ⟨[10], some 31, [0, 28], .s, 2047⟩, ⟨[13, 10], some 32, [31, 28], .s, 10239⟩, ⟨[14, 10], some 33, [32, 28], .s, 26623⟩, ⟨[15, 10], some 34, [33, 28], .s, 59391⟩, ⟨[16, 10], some 35, [34, 28], .s, 124927⟩, ⟨[17, 10], some 36, [35, 28], .s, 255999⟩, ⟨[12, 18, 10], some 37, [30, 36, 28], .s, 524287⟩, ⟨[10, 19], some 38, [28, 37], .s, 1048575⟩] [.s, .s, .s, .s, .s, .s, .s, .s, .s, .s, .s, .s, .s, .s, .s, .s, .s, .s, .s, .s, .s] [0, 1, 2, 3, 4, 5, 6, 7, 8, 9, 10, 11, 12, 13, 14, 15, 16, 17, 18, 19, 20] mixed (by kernel_rfl) (by kernel_rfl) (by kernel_rfl) rfl rfl ?_
    refine EP_s rfl rfl rfl rfl rfl (by exact (os_field rfl fl41_8)) ?_
    refine EP_s rfl rfl rfl rfl rfl (by exact (os_load_one rfl one4 (cells_own own_head rfl))) ?_
    refine EP_s rfl rfl rfl rfl rfl (by exact (os_not rfl)) ?_
    refine EP_s rfl rfl rfl rfl rfl (by exact (os_move rfl)) ?_
    refine EP_joint 6 27 (.bool ((!m.OK) || (!decide (xr.role = 2)))) [4, 5, 6, 7, 8, 9] rfl rfl rfl ?_ ?_
    · skip
      refine ES_case (!m.OK) (fun hg21 => ?_) (fun hg21 => ?_)
      · have hg21_ := hg21
        try simp only [Bool.or_eq_true, Bool.and_eq_true, Bool.or_eq_false_iff, Bool.and_eq_false_iff, decide_eq_true_eq, decide_eq_false_iff_not, Bool.not_eq_true', Bool.not_eq_false', Int.natCast_inj, Int.ofNat_lt, Int.ofNat_le] at hg21_
        refine ES_no rfl hg21 rfl rfl rfl rfl ?_
        refine ES_no rfl hg21 rfl rfl rfl rfl ?_
        refine ES_no rfl hg21 rfl rfl rfl rfl ?_
        refine ES_no rfl hg21 rfl rfl rfl rfl ?_
        refine ES_no rfl hg21 rfl rfl rfl rfl ?_
        refine ES_s rfl rfl rfl (os_pick_t' rfl hg21 rfl) ?_
        exact ES_fin 6 rfl rfl (by rw [hg21]; rfl)
      · have hg21_ := hg21
        try simp only [Bool.or_eq_true, Bool.and_eq_true, Bool.or_eq_false_iff, Bool.and_eq_false_iff, decide_eq_true_eq, decide_eq_false_iff_not, Bool.not_eq_true', Bool.not_eq_false', Int.natCast_inj, Int.ofNat_lt, Int.ofNat_le] at hg21_
        refine ES_yes (j := 3) (b := false) rfl rfl rfl hg21 rfl rfl (os_move rfl) ?_
        refine ES_yes (j := 3) (b := false) rfl rfl rfl hg21 rfl rfl (os_nilCheck rfl) ?_
        refine ES_yes (j := 3) (b := false) rfl rfl rfl hg21 rfl rfl (os_field rfl fl47_4) ?_
        refine ES_yes (j := 3) (b := false) rfl rfl rfl hg21 rfl rfl (os_load_one rfl one3 (cells_own (own_tail own_head) rfl)) ?_
        refine ES_yes (j := 3) (b := false) rfl rfl rfl hg21 rfl rfl (os_neq rfl rfl) ?_
        refine ES_s rfl rfl rfl (os_pick_f' rfl hg21 rfl) ?_
        exact ES_fin 6 rfl rfl (by rw [hg21]; rfl)
    refine EP_s rfl rfl rfl rfl rfl (by exact (os_move rfl)) ?_
    refine EP_joint 10 38 (.bool (((!m.OK) || (!decide (xr.role = 2))) || (!decide (((m.Term : Nat) : Int) = ((xr.Term : Nat) : Int))))) [11, 12, 13, 14, 15, 16, 17, 18, 19, 20] rfl rfl rfl ?_ ?_
    · skip
      refine ES_case ((!m.OK) || (!decide (xr.role = 2))) (fun hg28 => ?_) (fun hg28 => ?_)
      · have hg28_ := hg28
        try simp only [Bool.or_eq_true, Bool.and_eq_true, Bool.or_eq_false_iff, Bool.and_eq_false_iff, decide_eq_true_eq, decide_eq_false_iff_not, Bool.not_eq_true', Bool.not_eq_false', Int.natCast_inj, Int.ofNat_lt, Int.ofNat_le] at hg28_
        refine ES_no rfl hg28 rfl rfl rfl rfl ?_
        refine ES_no rfl hg28 rfl rfl rfl rfl ?_
        refine ES_no rfl hg28 rfl rfl rfl rfl ?_
        refine ES_no rfl hg28 rfl rfl rfl rfl ?_
        refine ES_no rfl hg28 rfl rfl rfl rfl ?_
        refine ES_no rfl hg28 rfl rfl rfl rfl ?_
        refine ES_no rfl hg28 rfl rfl rfl rfl ?_
        refine ES_no rfl hg28 rfl rfl rfl rfl ?_
        refine ES_no rfl hg28 rfl rfl rfl rfl ?_
        refine ES_s rfl rfl rfl (os_pick_t' rfl hg28 rfl) ?_
        exact ES_fin 10 rfl rfl (by rw [hg28]; rfl)
      · have hg28_ := hg28
        try simp only [Bool.or_eq_true, Bool.and_eq_true, Bool.or_eq_false_iff, Bool.and_eq_false_iff, decide_eq_true_eq, decide_eq_false_iff_not, Bool.not_eq_true', Bool.not_eq_false', Int.natCast_inj, Int.ofNat_lt, Int.ofNat_le] at hg28_
        refine ES_yes (j := 10) (b := false) rfl rfl rfl hg28 rfl rfl (os_field rfl fl41_3) ?_
        refine ES_yes (j := 10) (b := false) rfl rfl rfl hg28 rfl rfl (os_load_one rfl one22 (cells_own own_head rfl)) ?_
        refine ES_yes (j := 10) (b := false) rfl rfl rfl hg28 rfl rfl (os_move rfl) ?_
        refine ES_yes (j := 10) (b := false) rfl rfl rfl hg28 rfl rfl (os_nilCheck rfl) ?_
        refine ES_yes (j := 10) (b := false) rfl rfl rfl hg28 rfl rfl (os_field rfl fl47_0) ?_
        refine ES_yes (j := 10) (b := false) rfl rfl rfl hg28 rfl rfl (os_field rfl fl36_0) ?_
        refine ES_yes (j := 10) (b := false) rfl rfl rfl hg28 rfl rfl (os_field rfl fl33_0) ?_
        refine ES_yes (j := 10) (b := false) rfl rfl rfl hg28 rfl rfl (os_load_one rfl one22 (cells_own (own_tail own_head) rfl)) ?_
        refine ES_yes (j := 10) (b := false) rfl rfl rfl hg28 rfl rfl (os_neq rfl rfl) ?_
        refine ES_s rfl rfl rfl (os_pick_f' rfl hg28 rfl) ?_
        exact ES_fin 10 rfl rfl (by rw [hg28]; rfl)
    refine EP_nil ?_
    refine EQ_then (EQ_wp ?_)
    refine EW_cond rfl (fun hc38 => ?_) (fun hc38 => ?_)
    · have hb38 := hc38
      try simp only [Bool.or_eq_true, Bool.and_eq_true, Bool.or_eq_false_iff, Bool.and_eq_false_iff, decide_eq_true_eq, decide_eq_false_iff_not, Bool.not_eq_true', Bool.not_eq_false', Int.natCast_inj, Int.ofNat_lt, Int.ofNat_le] at hc38
      refine EW_seq ?_
      -- region 5  raft.go:331
      refine EW_region ?_
      refine EL_s rfl rfl rfl (os_assign rfl) ?_
      refine EL_nil ?_
      refine EQ_then (EQ_wp ?_)
      refine EW_ret ?_
      refine EQ_then_ret (?_)
      exact pn_ret1 [_, _, _, _, _] Try.results70 (rv_tmp rfl) (.refl _) (Incl.skip (Incl.cons (Incl.cons (Incl.cons (Incl.cons (Incl.cons (Incl.refl _) _) _) _) _) _) _) ⟨(NodeAt.to xr hora horb horc hord (by rw [NodeP.voted, if_neg (show ¬ xr.abs.Term < m.abs.Term from (by show ¬ xr.Term < m.Term; omega)), if_pos (show (m.abs.OK = false ∨ ¬ xr.abs.role = 2 ∨ ¬ m.abs.Term = xr.abs.Term) from (by show (m.OK = false ∨ ¬ xr.role = 2 ∨ ¬ m.Term = xr.Term); cases hok : m.OK <;> simp [hok] at hc38 ⊢ <;> omega))]; first | done | rfl)), ⟨(Sl.mk (Hd.mk none 0 0) []), rfl, (FRow.none _ _ _), (by rw [NodeP.voted, if_neg (show ¬ xr.abs.Term < m.abs.Term from (by show ¬ xr.Term < m.Term; omega)), if_pos (show (m.abs.OK = false ∨ ¬ xr.abs.role = 2 ∨ ¬ m.abs.Term = xr.abs.Term) from (by show (m.OK = false ∨ ¬ xr.role = 2 ∨ ¬ m.Term = xr.Term); cases hok : m.OK <;> simp [hok] at hc38 ⊢ <;> omega))]; first | done | rfl)⟩⟩ (.inl rfl)
    · have hb38 := hc38
      try simp only [Bool.or_eq_true, Bool.and_eq_true, Bool.or_eq_false_iff, Bool.and_eq_false_iff, decide_eq_true_eq, decide_eq_false_iff_not, Bool.not_eq_true', Bool.not_eq_false', Int.natCast_inj, Int.ofNat_lt, Int.ofNat_le] at hc38
      refine EW_skip ?_
      refine EQ_then (EQ_wp ?_)
      refine EW_seq ?_
      -- region 6 DRAWN  raft.go:333
      refine EW_drawC [] [⟨[], some 39, [0], .s, 0⟩, ⟨[0], some 40, [39], .s, 1⟩, ⟨[1], some 41, [40], .s, 3⟩, ⟨[2], some 42, [41], .s, 7⟩, ⟨[], some 43, [3], .s, 0⟩, ⟨[4], some 44, [43], .s, 16⟩, ⟨[3, 5, 0, 1, 2, 3, 4, 5], some 45, [42, 44], .s, 63⟩, ⟨[6, 0, 1, 2, 3, 4, 5], none, [45], .x, 127⟩] [.s, .s, .s, .s, .s, .s, .s, .x] [0, 1, 2, 3, 4, 5, 6, 7] mixed (by kernel_rfl) (by kernel_rfl) (by kernel_rfl) rfl rfl ?_
      refine EP_s rfl rfl rfl rfl rfl (by exact (os_move rfl)) ?_
      refine EP_s rfl rfl rfl rfl rfl (by exact (os_nilCheck rfl)) ?_
      refine EP_s rfl rfl rfl rfl rfl (by exact (os_field rfl fl47_8)) ?_
      refine EP_s rfl rfl rfl rfl rfl (by exact (os_load_one rfl one45 (cells_own (own_tail own_head) rfl))) ?_
      refine EP_s rfl rfl rfl rfl rfl (by exact (os_field rfl fl41_1)) ?_
      refine EP_s rfl rfl rfl rfl rfl (by exact (os_load_one rfl one3 (cells_own own_head rfl))) ?_
      have hl45 := (show xr.votes.h.n = xr.votes.xs.length from OwnR.len horb)
      obtain ⟨x45, hx45⟩ := get_some (l := xr.votes.xs) (k := (m.From).toNat) (by first | omega | (simp only [List.length_set, List.length_replicate, List.length_cons, List.length_nil]; omega) | (simp <;> omega))
      refine EP_s rfl rfl rfl rfl rfl (by exact (os_at (m := xr.votes.h.n) ((m.From).toNat) rfl rfl (by omega) sl45 (by omega) (by have hz_ := OwnR.some horb (by show 0 < xr.votes.h.n; omega); exact hz_))) ?_
      refine EP_z rfl rfl rfl rfl (by exact (ox_set true rfl rfl sz4 rfl horb (by first | omega | (simp only [List.length_set, List.length_replicate, List.length_cons, List.length_nil]; omega) | (simp <;> omega)) trivial (bk_3 _ _ _ _ _))) ?_
      rintro L6_7 v6_7 ⟨S6_7, rfl, ho6_7⟩
      refine EP_perm (bk_3 _ _ _ _ _) ?_
      have ho6_7 : OwnR rBool I0 4 (Sl.mk xr.votes.h (xr.votes.xs.set ((m.From).toNat) true)) S6_7 := ho6_7
      refine EP_nil ?_
      refine EQ_then (EQ_wp ?_)
      refine EW_seq ?_
      refine EW_seq ?_
      -- region 7  raft.go:334
      refine EW_region ?_
      refine EL_s rfl rfl rfl (os_move rfl) ?_
      refine EL_s rfl rfl rfl (os_move rfl) ?_
      refine EL_s rfl rfl rfl (os_nilCheck rfl) ?_
      refine EL_s rfl rfl rfl (os_field rfl fl47_8) ?_
      refine EL_s rfl rfl rfl (os_load_one rfl one45 (cells_own (own_tail own_head) rfl)) ?_
      refine EL_s rfl rfl rfl (os_call (vs := [(.pointer (some ⟨br, 0, none⟩)), ((Sl.mk xr.votes.h (xr.votes.xs.set ((m.From).toNat) true)).v)]) body110 rfl (n_most (NodeAt.intro (Node.mk xr.Term xr.Vote xr.Base xr.BaseTerm xr.Entries xr.id xr.n xr.limit xr.role xr.lead xr.commit xr.clock (Sl.mk xr.votes.h (xr.votes.xs.set ((m.From).toNat) true)) xr.match_ xr.next) hora ho6_7 horc hord) (incl_mid [_] [_, _, _, _, _] _) (OwnR.frow ho6_7 fun x hx => .inr (own_tail (own_tail (own_tail (own_seg hx))))))) ?_
      refine EL_nil ?_
      refine EQ_then (EQ_wp ?_)
      refine EW_cond rfl (fun hc51 => ?_) (fun hc51 => ?_)
      · have hb51 := hc51
        try simp only [Bool.or_eq_true, Bool.and_eq_true, Bool.or_eq_false_iff, Bool.and_eq_false_iff, decide_eq_true_eq, decide_eq_false_iff_not, Bool.not_eq_true', Bool.not_eq_false', Int.natCast_inj, Int.ofNat_lt, Int.ofNat_le] at hc51
        refine EW_seq ?_
        -- region 8  raft.go:335
        refine EW_region ?_
        refine EL_s rfl rfl rfl (os_move rfl) ?_
        refine EL_x rfl rfl (ox_callN (vs := [(.pointer (some ⟨br, 0, none⟩))]) body111 rfl (pl_1_5 _ _ _ _ _ _ _) (n_begin (NodeAt.intro (Node.mk xr.Term xr.Vote xr.Base xr.BaseTerm xr.Entries xr.id xr.n xr.limit xr.role xr.lead xr.commit xr.clock (Sl.mk xr.votes.h (xr.votes.xs.set ((m.From).toNat) true)) xr.match_ xr.next) hora ho6_7 horc hord) (by exact ⟨hp0.base, hp0.len, hp0.term, hp0.id0, hp0.idn, hp0.n5, hp0.lim0, hp0.lim1, hp0.clk0, hp0.clk1, hp0.bt, hp0.trm, hp0.cmt⟩) (by simp only [Node.abs, List.length_map]; omega))) ?_
        rintro I53 L53 v53 hI53 ⟨Ss53, rfl, ⟨x53, S53a, S53b, S53c, S53d, hx53, rfl, ho53a, ho53b, ho53c, ho53d⟩, ⟨y53, rfl, hy53, hay53⟩⟩
        refine EL_perm (nm_5 _ _ _ _ _ _) ?_
        refine EL_s rfl rfl rfl (os_assign rfl) ?_
        refine EL_nil ?_
        refine EQ_then (EQ_wp ?_)
        refine EW_ret ?_
        refine EQ_then_ret (?_)
        exact pn_ret1 [_, _, _, _, _] Try.results70 (rv_tmp rfl) hI53 (Incl.cons (Incl.cons (Incl.cons (Incl.cons (Incl.cons (Incl.skip (Incl.refl _) _) _) _) _) _) _) ⟨(NodeAt.to x53 ho53a ho53b ho53c ho53d (by rw [NodeP.voted, if_neg (show ¬ xr.abs.Term < m.abs.Term from (by show ¬ xr.Term < m.Term; omega)), if_neg (show ¬ (m.abs.OK = false ∨ ¬ xr.abs.role = 2 ∨ ¬ m.abs.Term = xr.abs.Term) from (by show ¬ (m.OK = false ∨ ¬ xr.role = 2 ∨ ¬ m.Term = xr.Term); cases hok : m.OK <;> simp [hok] at hc38 ⊢ <;> omega))]; refine Eq.trans ?_ (congrArg _ (if_pos hb51)).symm; first | exact hx53 | exact hay53)), ⟨y53, rfl, (FRow.mono hy53 (.refl _) (.refl _)), (by rw [NodeP.voted, if_neg (show ¬ xr.abs.Term < m.abs.Term from (by show ¬ xr.Term < m.Term; omega)), if_neg (show ¬ (m.abs.OK = false ∨ ¬ xr.abs.role = 2 ∨ ¬ m.abs.Term = xr.abs.Term) from (by show ¬ (m.OK = false ∨ ¬ xr.role = 2 ∨ ¬ m.Term = xr.Term); cases hok : m.OK <;> simp [hok] at hc38 ⊢ <;> omega))]; refine Eq.trans ?_ (congrArg _ (if_pos hb51)).symm; first | exact hx53 | exact hay53)⟩⟩ (.inl rfl)
      · have hb51 := hc51
        try simp only [Bool.or_eq_true, Bool.and_eq_true, Bool.or_eq_false_iff, Bool.and_eq_false_iff, decide_eq_true_eq, decide_eq_false_iff_not, Bool.not_eq_true', Bool.not_eq_false', Int.natCast_inj, Int.ofNat_lt, Int.ofNat_le] at hc51
        refine EW_skip ?_
        refine EQ_then (EQ_wp ?_)
        refine EW_seq ?_
        -- region 9  raft.go:337
        refine EW_region ?_
        refine EL_s rfl rfl rfl (os_assign rfl) ?_
        refine EL_nil ?_
        refine EQ_then (EQ_wp ?_)
        refine EW_ret ?_
        exact pn_ret1 [_, _, _, _, _] Try.results70 (rv_tmp rfl) (.refl _) (Incl.skip (Incl.cons (Incl.cons (Incl.cons (Incl.cons (Incl.cons (Incl.refl _) _) _) _) _) _) _) ⟨(NodeAt.to (Node.mk xr.Term xr.Vote xr.Base xr.BaseTerm xr.Entries xr.id xr.n xr.limit xr.role xr.lead xr.commit xr.clock (Sl.mk xr.votes.h (xr.votes.xs.set ((m.From).toNat) true)) xr.match_ xr.next) hora ho6_7 horc hord (by rw [NodeP.voted, if_neg (show ¬ xr.abs.Term < m.abs.Term from (by show ¬ xr.Term < m.Term; omega)), if_neg (show ¬ (m.abs.OK = false ∨ ¬ xr.abs.role = 2 ∨ ¬ m.abs.Term = xr.abs.Term) from (by show ¬ (m.OK = false ∨ ¬ xr.role = 2 ∨ ¬ m.Term = xr.Term); cases hok : m.OK <;> simp [hok] at hc38 ⊢ <;> omega))]; refine Eq.trans ?_ (congrArg _ (if_neg (ne_true_of_eq_false hb51))).symm; rfl)), ⟨(Sl.mk (Hd.mk none 0 0) []), rfl, (FRow.none _ _ _), (by rw [NodeP.voted, if_neg (show ¬ xr.abs.Term < m.abs.Term from (by show ¬ xr.Term < m.Term; omega)), if_neg (show ¬ (m.abs.OK = false ∨ ¬ xr.abs.role = 2 ∨ ¬ m.abs.Term = xr.abs.Term) from (by show ¬ (m.OK = false ∨ ¬ xr.role = 2 ∨ ¬ m.Term = xr.Term); cases hok : m.OK <;> simp [hok] at hc38 ⊢ <;> omega))]; refine Eq.trans ?_ (congrArg _ (if_neg (ne_true_of_eq_false hb51))).symm; rfl)⟩⟩ (.inl rfl)

set_option maxHeartbeats 1000000 in
theorem n_snap {I : Gh} {L : List Seg} {br : Nat} {r : NodeP} {Ssr : List Seg} (hr : NodeAt I br r Ssr) {m : Msg} (hm : Msg.Ok I m) (hp0 : NodeP.Few r) (hp1 : 0 ≤ m.abs.From ∧ m.abs.From < r.n) (hp2 : m.abs.Term ≤ 4611686018427387904) (hp3 : m.abs.Index ≤ 4611686018427387904) : PN Try.prog 112 #[.pointer (some ⟨br, 0, none⟩), .agg (m.cells).toArray] I L (Ssr) fun K Ss' v => NodeAt K br ((r.snap m.abs).1) Ss' ∧ (∃ (y0 : Sl Msg), v = y0.v ∧ FRow rMsg K [] y0 ∧ y0.xs.map Msg.abs = (r.snap m.abs).2) := by
  obtain ⟨xr, Sra, Srb, Src, Srd, rfl, rfl, hora, horb, horc, hord⟩ := hr
  refine PN.of (n := 81) Try.func112 rfl Try.ntmps112 rfl fun I0 L0 hI0 hL0 => ?_
  refine EW_perm (nm_5 _ _ _ _ _ _) ?_
  have hora := hora.mono hI0
  have horb := horb.mono hI0
  have horc := horc.mono hI0
  have hord := hord.mono hI0
  have hm := hm.mono hI0
  have hf0 := hp0
  obtain ⟨hfb, hfl, hft, hid0, hidn, hn5, hlim0, hlim1, hclk0, hclk1, hbt, htrm, hcmt⟩ := hf0
  simp only [Node.abs, List.length_map] at hfb hfl hft hid0 hidn hn5 hlim0 hlim1 hclk0 hclk1 hbt htrm hcmt
  have hltm := NodeP.lastTerm_le hp0
  have hlast : NodeP.last xr.abs = xr.Base + xr.Entries.xs.length := by simp [NodeP.last, Node.abs]
  simp only [Node.abs] at hp1
  simp only [Msg.abs] at hp1 hp2 hp3
  have hmt := hm.Term
  have hmf := hm.From
  refine EW_seq ?_
  -- region 0  raft.go:387
  refine EW_region ?_
  refine EL_a rfl rfl rfl (oa_box rfl) ?_
  intro b3
  refine EL_s rfl rfl rfl (os_assign rfl) ?_
  refine EL_nil ?_
  refine EQ_then (EQ_wp ?_)
  refine EW_seq ?_
  refine EW_seq ?_
  -- region 1 DRAWN  raft.go:388
  refine EW_drawC [] [⟨[], some 7, [3], .s, 0⟩, ⟨[0], some 8, [7], .s, 1⟩, ⟨[], some 9, [0], .s, 0⟩, ⟨[2], some 10, [9], .s, 4⟩, ⟨[3], some 11, [10], .s, 12⟩, ⟨[4], some 12, [11], .s, 28⟩, ⟨[1, 5], some 13, [8, 12], .s, 63⟩] [.s, .s, .s, .s, .s, .s, .s] [0, 1, 2, 3, 4, 5, 6] mixed (by kernel_rfl) (by kernel_rfl) (by kernel_rfl) rfl rfl ?_
  refine EP_s rfl rfl rfl rfl rfl (by exact (os_field rfl fl41_4)) ?_
  refine EP_s rfl rfl rfl rfl rfl (by exact (os_load_one rfl one22 (cells_own own_head rfl))) ?_
  refine EP_s rfl rfl rfl rfl rfl (by exact (os_move rfl)) ?_
  refine EP_s rfl rfl rfl rfl rfl (by exact (os_nilCheck rfl)) ?_
  refine EP_s rfl rfl rfl rfl rfl (by exact (os_field rfl fl47_6)) ?_
  refine EP_s rfl rfl rfl rfl rfl (by exact (os_load_one rfl one22 (cells_own (own_tail own_head) rfl))) ?_
  refine EP_s rfl rfl rfl rfl rfl (by exact (os_leq rfl rfl)) ?_
  refine EP_nil ?_
  refine EQ_then (EQ_wp ?_)
  refine EW_cond rfl (fun hc13 => ?_) (fun hc13 => ?_)
  · have hb13 := hc13
    try simp only [Bool.or_eq_true, Bool.and_eq_true, Bool.or_eq_false_iff, Bool.and_eq_false_iff, decide_eq_true_eq, decide_eq_false_iff_not, Bool.not_eq_true', Bool.not_eq_false', Int.natCast_inj, Int.ofNat_lt, Int.ofNat_le] at hc13
    refine EW_seq ?_
    -- region 2 DRAWN  raft.go:389
    refine EW_drawC [] [⟨[], some 14, [0], .s, 0⟩, ⟨[], some 15, [3], .s, 0⟩, ⟨[], some 16, [0], .s, 0⟩, ⟨[2], some 17, [16], .s, 4⟩, ⟨[3], some 18, [17], .s, 12⟩, ⟨[4], some 19, [18], .s, 28⟩, ⟨[5], some 20, [19], .s, 60⟩, ⟨[6], some 21, [20], .s, 124⟩, ⟨[], some 22, [0], .s, 0⟩, ⟨[8], some 23, [22], .s, 256⟩, ⟨[9], some 24, [23], .s, 768⟩, ⟨[10], some 25, [24], .s, 1792⟩, ⟨[7, 11], some 26, [21, 25], .s, 4092⟩, ⟨[0, 1, 12], some 27, [14, 15, 26], .g, 8191⟩, ⟨[13, 13, 0, 1, 2, 3, 4, 5, 6, 7, 8, 9, 10, 11, 12, 13], some 4, [27], .s, 16383⟩] [.s, .s, .s, .s, .s, .s, .s, .s, .s, .s, .s, .s, .s, .g, .s] [0, 1, 2, 3, 4, 5, 6, 7, 8, 9, 10, 11, 12, 13, 14] mixed (by kernel_rfl) (by kernel_rfl) (by kernel_rfl) rfl rfl ?_
    refine EP_s rfl rfl rfl rfl rfl (by exact (os_move rfl)) ?_
    refine EP_s rfl rfl rfl rfl rfl (by exact (os_load_agg (cs := [_, _, _, _, _, _, _, _, _, _]) rfl agg41 (cells_own own_head rfl))) ?_
    refine EP_s rfl rfl rfl rfl rfl (by exact (os_move rfl)) ?_
    refine EP_s rfl rfl rfl rfl rfl (by exact (os_nilCheck rfl)) ?_
    refine EP_s rfl rfl rfl rfl rfl (by exact (os_field rfl fl47_0)) ?_
    refine EP_s rfl rfl rfl rfl rfl (by exact (os_field rfl fl36_0)) ?_
    refine EP_s rfl rfl rfl rfl rfl (by exact (os_field rfl fl33_0)) ?_
    refine EP_s rfl rfl rfl rfl rfl (by exact (os_load_one rfl one22 (cells_own (own_tail own_head) rfl))) ?_
    refine EP_s rfl rfl rfl rfl rfl (by exact (os_move rfl)) ?_
    refine EP_s rfl rfl rfl rfl rfl (by exact (os_nilCheck rfl)) ?_
    refine EP_s rfl rfl rfl rfl rfl (by exact (os_field rfl fl47_6)) ?_
    refine EP_s rfl rfl rfl rfl rfl (by exact (os_load_one rfl one22 (cells_own (own_tail own_head) rfl))) ?_
    refine EP_s rfl rfl rfl rfl rfl (by exact (os_struct (cs := [_, _, _, _, _, _, _, _, _, _]) [(0, _), (3, _), (8, _), (4, _)] pl41 z41 rfl rfl)) ?_
    have hr_a27_2 : Msg.Ok I0 (Msg.mk 6 0 0 xr.Term xr.commit 0 0 (Sl.mk (Hd.mk none 0 0) []) true (Sl.mk (Hd.mk none 0 0) [])) := ⟨(by first | omega | (dsimp only; omega)), (by first | omega | (dsimp only; omega)), (by first | omega | (dsimp only; omega)), (by first | omega | (dsimp only; omega)), (by first | omega | (dsimp only; omega)), (by first | omega | (dsimp only; omega)), (by first | omega | (dsimp only; omega)), (FRow.none _ _ _), (FRow.none _ _ _)⟩
    refine EP_g rfl rfl rfl rfl rfl (by exact (og_call (vs := [(.pointer (some ⟨br, 0, none⟩)), (.agg (m.cells).toArray), .agg ((Msg.mk 6 0 0 xr.Term xr.commit 0 0 (Sl.mk (Hd.mk none 0 0) []) true (Sl.mk (Hd.mk none 0 0) [])).cells).toArray]) body67 rfl (n_answer (NodeAt.intro xr hora horb horc hord) (incl_mid [_] [_, _, _, _, _] _) hm hr_a27_2 (by first | (simp only [Node.abs]; omega) | (have h1 := hfw.id0; have h2 := hfw.idn; have h3 := hfw.n5; simp only [Node.abs] at h1 h2 h3 ⊢; omega))))) ?_
    intro I27 v27 hI27 hv27
    obtain ⟨y27, rfl, hy27, hay27⟩ := hv27
    refine EP_s rfl rfl rfl rfl rfl (by exact (os_assign rfl)) ?_
    refine EP_nil ?_
    refine EQ_then (EQ_wp ?_)
    refine EW_ret ?_
    refine EQ_then_ret (?_)
    exact pn_ret1 [_, _, _, _, _] Try.results112 (rv_tmp rfl) hI27 (Incl.skip (Incl.cons (Incl.cons (Incl.cons (Incl.cons (Incl.cons (Incl.refl _) _) _) _) _) _) _) ⟨(NodeAt.to xr (hora.mono hI27) (horb.mono hI27) (horc.mono hI27) (hord.mono hI27) (by rw [NodeP.snap, if_pos (show m.abs.Index ≤ xr.abs.commit from hc13)]; first | done | rfl | exact hay27)), ⟨y27, rfl, (FRow.mono hy27 (.refl _) (.refl _)), (by rw [NodeP.snap, if_pos (show m.abs.Index ≤ xr.abs.commit from hc13)]; first | done | rfl | exact hay27)⟩⟩ (.inl rfl)
  · have hb13 := hc13
    try simp only [Bool.or_eq_true, Bool.and_eq_true, Bool.or_eq_false_iff, Bool.and_eq_false_iff, decide_eq_true_eq, decide_eq_false_iff_not, Bool.not_eq_true', Bool.not_eq_false', Int.natCast_inj, Int.ofNat_lt, Int.ofNat_le] at hc13
    refine EW_skip ?_
    refine EQ_then (EQ_wp ?_)
    refine EW_seq ?_
    refine EW_seq ?_
    -- region 3  raft.go:391
    refine EW_region ?_
    refine EL_s rfl rfl rfl (os_field rfl fl41_5) ?_
    refine EL_s rfl rfl rfl (os_load_one rfl one22 (cells_own own_head rfl)) ?_
    refine EL_s rfl rfl rfl (os_field rfl fl41_3) ?_
    refine EL_s rfl rfl rfl (os_load_one rfl one22 (cells_own own_head rfl)) ?_
    refine EL_s rfl rfl rfl (os_gtr rfl rfl) ?_
    refine EL_nil ?_
    refine EQ_then (EQ_wp ?_)
    refine EW_cond rfl (fun hc32 => ?_) (fun hc32 => ?_)
    · have hb32 := hc32
      try simp only [Bool.or_eq_true, Bool.and_eq_true, Bool.or_eq_false_iff, Bool.and_eq_false_iff, decide_eq_true_eq, decide_eq_false_iff_not, Bool.not_eq_true', Bool.not_eq_false', Int.natCast_inj, Int.ofNat_lt, Int.ofNat_le] at hc32
      refine EW_seq ?_
      -- region 4  raft.go:392
      refine EW_region ?_
      refine EL_s rfl rfl rfl (os_assign rfl) ?_
      refine EL_nil ?_
      refine EQ_then (EQ_wp ?_)
      refine EW_ret ?_
      refine EQ_then_ret (?_)
      exact pn_ret1 [_, _, _, _, _] Try.results112 (rv_tmp rfl) (.refl _) (Incl.skip (Incl.cons (Incl.cons (Incl.cons (Incl.cons (Incl.cons (Incl.refl _) _) _) _) _) _) _) ⟨(NodeAt.to xr hora horb horc hord (by rw [NodeP.snap, if_neg (show ¬ m.abs.Index ≤ xr.abs.commit from (by show ¬ m.Index ≤ xr.commit; omega)), if_pos (show m.abs.Term < m.abs.LogTerm from hc32)]; first | done | rfl)), ⟨(Sl.mk (Hd.mk none 0 0) []), rfl, (FRow.none _ _ _), (by rw [NodeP.snap, if_neg (show ¬ m.abs.Index ≤ xr.abs.commit from (by show ¬ m.Index ≤ xr.commit; omega)), if_pos (show m.abs.Term < m.abs.LogTerm from hc32)]; first | done | rfl)⟩⟩ (.inl rfl)
    · have hb32 := hc32
      try simp only [Bool.or_eq_true, Bool.and_eq_true, Bool.or_eq_false_iff, Bool.and_eq_false_iff, decide_eq_true_eq, decide_eq_false_iff_not, Bool.not_eq_true', Bool.not_eq_false', Int.natCast_inj, Int.ofNat_lt, Int.ofNat_le] at hc32
      refine EW_skip ?_
      refine EQ_then (EQ_wp ?_)
      refine EW_seq ?_
      refine EW_seq ?_
      -- region 5  raft.go:394
      refine EW_region ?_
      refine EL_s rfl rfl rfl (os_move rfl) ?_
      refine EL_s rfl rfl rfl (os_field rfl fl41_4) ?_
      refine EL_s rfl rfl rfl (os_load_one rfl one22 (cells_own own_head rfl)) ?_
      refine EL_s rfl rfl rfl (os_call (vs := [(.pointer (some ⟨br, 0, none⟩)), (.int .u64 ((m.Index : Nat) : Int))]) body23 rfl (n_TermAt (NodeAt.intro xr hora horb horc hord) (incl_mid [_] [_, _, _, _, _] _) m.Index (by exact hp0))) ?_
      refine EL_s rfl rfl rfl (os_move rfl) ?_
      refine EL_s rfl rfl rfl (os_extract rfl rfl) ?_
      refine EL_s rfl rfl rfl (os_extract rfl rfl) ?_
      refine EL_s rfl rfl rfl (os_assign rfl) ?_
      refine EL_s rfl rfl rfl (os_assign rfl) ?_
      refine EL_nil ?_
      refine EQ_then (EQ_wp ?_)
      refine EW_seq ?_
      -- region 6  raft.go:394
      refine EW_region ?_
      refine EL_s rfl rfl rfl (os_move rfl) ?_
      refine EL_s rfl rfl rfl (os_not rfl) ?_
      refine EL_s rfl rfl rfl (os_move rfl) ?_
      refine EL_joint 5 47 (.bool ((!(((xr.abs).termAt m.Index).isSome)) || (!decide ((((((xr.abs).termAt m.Index).getD 0) : Nat) : Int) = ((m.LogTerm : Nat) : Int))))) ?_ ?_
      · skip
        refine ES_case (!(((xr.abs).termAt m.Index).isSome)) (fun hg42 => ?_) (fun hg42 => ?_)
        · have hg42_ := hg42
          try simp only [Bool.or_eq_true, Bool.and_eq_true, Bool.or_eq_false_iff, Bool.and_eq_false_iff, decide_eq_true_eq, decide_eq_false_iff_not, Bool.not_eq_true', Bool.not_eq_false', Int.natCast_inj, Int.ofNat_lt, Int.ofNat_le] at hg42_
          refine ES_no rfl hg42 rfl rfl rfl rfl ?_
          refine ES_no rfl hg42 rfl rfl rfl rfl ?_
          refine ES_no rfl hg42 rfl rfl rfl rfl ?_
          refine ES_no rfl hg42 rfl rfl rfl rfl ?_
          refine ES_s rfl rfl rfl (os_pick_t' rfl hg42 rfl) ?_
          exact ES_fin 5 rfl rfl (by rw [hg42]; rfl)
        · have hg42_ := hg42
          try simp only [Bool.or_eq_true, Bool.and_eq_true, Bool.or_eq_false_iff, Bool.and_eq_false_iff, decide_eq_true_eq, decide_eq_false_iff_not, Bool.not_eq_true', Bool.not_eq_false', Int.natCast_inj, Int.ofNat_lt, Int.ofNat_le] at hg42_
          refine ES_yes (j := 2) (b := false) rfl rfl rfl hg42 rfl rfl (os_move rfl) ?_
          refine ES_yes (j := 2) (b := false) rfl rfl rfl hg42 rfl rfl (os_field rfl fl41_5) ?_
          refine ES_yes (j := 2) (b := false) rfl rfl rfl hg42 rfl rfl (os_load_one rfl one22 (cells_own own_head rfl)) ?_
          refine ES_yes (j := 2) (b := false) rfl rfl rfl hg42 rfl rfl (os_neq rfl rfl) ?_
          refine ES_s rfl rfl rfl (os_pick_f' rfl hg42 rfl) ?_
          exact ES_fin 5 rfl rfl (by rw [hg42]; rfl)
      refine EL_nil ?_
      refine EQ_then (EQ_wp ?_)
      refine EW_cond rfl (fun hc47 => ?_) (fun hc47 => ?_)
      · have hb47 := hc47
        try simp only [Bool.or_eq_true, Bool.and_eq_true, Bool.or_eq_false_iff, Bool.and_eq_false_iff, decide_eq_true_eq, decide_eq_false_iff_not, Bool.not_eq_true', Bool.not_eq_false', Int.natCast_inj, Int.ofNat_lt, Int.ofNat_le] at hc47
        -- region 7 DRAWN  raft.go:395
        refine EW_drawC [[(b3, .cells #[(.int .i64 m.Kind), (.int .i64 m.From), (.int .i64 m.To), (.int .u64 ((m.Term : Nat) : Int)), (.int .u64 ((m.Index : Nat) : Int)), (.int .u64 ((m.LogTerm : Nat) : Int)), (.int .u64 ((m.Commit : Nat) : Int)), (m.Entries.v), (.bool m.OK), (m.Data.v)] 41)]] [⟨[], some 48, [0], .r, 0⟩, ⟨[], some 49, [0], .r, 0⟩, ⟨[], some 50, [0], .r, 0⟩, ⟨[], some 51, [3], .r, 0⟩, ⟨[3], some 52, [51], .r, 8⟩, ⟨[], some 53, [3], .r, 0⟩, ⟨[5], some 54, [53], .r, 32⟩, ⟨[0, 0, 3, 4], some 55, [48], .r, 25⟩, ⟨[7, 0, 3, 4], some 56, [55], .r, 153⟩, ⟨[8, 0, 3, 4], some 57, [56], .r, 409⟩, ⟨[9, 4, 0, 3, 4], none, [57, 52], .y, 921⟩, ⟨[1, 0, 1, 3, 4, 5, 6, 7, 8, 9, 10], some 58, [49], .r, 2043⟩, ⟨[11, 0, 1, 3, 4, 5, 6, 7, 8, 9, 10], some 59, [58], .r, 4091⟩, ⟨[12, 0, 1, 3, 4, 5, 6, 7, 8, 9, 10], some 60, [59], .r, 8187⟩, ⟨[13, 6, 10, 0, 1, 3, 4, 5, 6, 7, 8, 9, 10], none, [60, 54], .y, 16379⟩, ⟨[2, 0, 1, 2, 3, 4, 5, 6, 7, 8, 9, 10, 11, 12, 13, 14], some 61, [50], .r, 32767⟩, ⟨[15, 0, 1, 2, 3, 4, 5, 6, 7, 8, 9, 10, 11, 12, 13, 14], some 62, [61], .r, 65535⟩, ⟨[16, 0, 1, 2, 3, 4, 5, 6, 7, 8, 9, 10, 11, 12, 13, 14], some 63, [62], .r, 131071⟩, ⟨[17, 14, 0, 1, 2, 3, 4, 5, 6, 7, 8, 9, 10, 11, 12, 13, 14], none, [63], .y, 262143⟩] [.r, .r, .r, .r, .r, .r, .r, .r, .r, .r, .y, .r, .r, .r, .y, .r, .r, .r, .y] [0, 1, 2, 3, 4, 5, 6, 7, 8, 9, 10, 11, 12, 13, 14, 15, 16, 17, 18] mixed (by kernel_rfl) (by kernel_rfl) (by kernel_rfl) rfl rfl ?_
        refine EP_r rfl rfl rfl rfl rfl (incl_mid [] [_] _) (by exact (os_move rfl)) ?_
        refine EP_r rfl rfl rfl rfl rfl (incl_mid [] [_] _) (by exact (os_move rfl)) ?_
        refine EP_r rfl rfl rfl rfl rfl (incl_mid [] [_] _) (by exact (os_move rfl)) ?_
        refine EP_r rfl rfl rfl rfl rfl (incl_mid [] [_] _) (by exact (os_field rfl fl41_4)) ?_
        refine EP_r rfl rfl rfl rfl rfl (incl_mid [] [_] _) (by exact (os_load_one rfl one22 (cells_own own_head rfl))) ?_
        refine EP_r rfl rfl rfl rfl rfl (incl_mid [] [_] _) (by exact (os_field rfl fl41_5)) ?_
        refine EP_r rfl rfl rfl rfl rfl (incl_mid [] [_] _) (by exact (os_load_one rfl one22 (cells_own own_head rfl))) ?_
        refine EP_r rfl rfl rfl rfl rfl (incl_mid [] [_] _) (by exact (os_nilCheck rfl)) ?_
        refine EP_r rfl rfl rfl rfl rfl (incl_mid [] [_] _) (by exact (os_field rfl fl47_0)) ?_
        refine EP_r rfl rfl rfl rfl rfl (incl_mid [] [_] _) (by exact (os_field rfl fl36_1)) ?_
        refine EP_ku rfl rfl rfl rfl (by exact (ox_store rfl rfl sz22 rfl (by rfl) (.tail (.head .head)))) (incl_mid [] [_] _) ?_
        refine EP_r rfl rfl rfl rfl rfl (incl_mid [] [_] _) (by exact (os_nilCheck rfl)) ?_
        refine EP_r rfl rfl rfl rfl rfl (incl_mid [] [_] _) (by exact (os_field rfl fl47_0)) ?_
        refine EP_r rfl rfl rfl rfl rfl (incl_mid [] [_] _) (by exact (os_field rfl fl36_2)) ?_
        refine EP_ku rfl rfl rfl rfl (by exact (ox_store rfl rfl sz22 rfl (by rfl) (.tail (.head .head)))) (incl_mid [] [_] _) ?_
        refine EP_r rfl rfl rfl rfl rfl (incl_mid [] [_] _) (by exact (os_nilCheck rfl)) ?_
        refine EP_r rfl rfl rfl rfl rfl (incl_mid [] [_] _) (by exact (os_field rfl fl47_0)) ?_
        refine EP_r rfl rfl rfl rfl rfl (incl_mid [] [_] _) (by exact (os_field rfl fl36_3)) ?_
        refine EP_ku rfl rfl rfl rfl (by exact (ox_store rfl rfl sz34 rfl (by rfl) (.tail (.head .head)))) (incl_mid [] [_] _) ?_
        refine EP_nil ?_
        refine EQ_own (incl_empty _) ?_
        have hoe1 : OwnR rEntry I0 125 (Sl.mk (Hd.mk none 0 0) []) [] := OwnR.none _ _ _
        refine EQ_then (EQ_wp ?_)
        refine EW_seq ?_
        -- region 8  raft.go:397
        refine EW_region ?_
        refine EL_s rfl rfl rfl (os_move rfl) ?_
        refine EL_s rfl rfl rfl (os_field rfl fl41_4) ?_
        refine EL_s rfl rfl rfl (os_load_one rfl one22 (cells_own (own_tail own_head) rfl)) ?_
        refine EL_s rfl rfl rfl (os_nilCheck rfl) ?_
        refine EL_s rfl rfl rfl (os_field rfl fl47_6) ?_
        refine EL_u rfl rfl (ox_store rfl rfl sz22 rfl (by rfl) (.tail (.tail (.head .head)))) ?_
        refine EL_nil ?_
        refine EQ_then (EQ_wp ?_)
        refine EW_seq ?_
        -- region 9 DRAWN  raft.go:398
        refine EW_drawC [] [⟨[], some 69, [0], .s, 0⟩, ⟨[], some 70, [3], .s, 0⟩, ⟨[], some 71, [0], .s, 0⟩, ⟨[2], some 72, [71], .s, 4⟩, ⟨[3], some 73, [72], .s, 12⟩, ⟨[4], some 74, [73], .s, 28⟩, ⟨[5], some 75, [74], .s, 60⟩, ⟨[6], some 76, [75], .s, 124⟩, ⟨[], some 77, [3], .s, 0⟩, ⟨[8], some 78, [77], .s, 256⟩, ⟨[7, 9], some 79, [76, 78], .s, 1020⟩, ⟨[0, 1, 10], some 80, [69, 70, 79], .g, 2047⟩, ⟨[11, 11, 0, 1, 2, 3, 4, 5, 6, 7, 8, 9, 10, 11], some 4, [80], .s, 4095⟩] [.s, .s, .s, .s, .s, .s, .s, .s, .s, .s, .s, .g, .s] [0, 1, 2, 3, 4, 5, 6, 7, 8, 9, 10, 11, 12] mixed (by kernel_rfl) (by kernel_rfl) (by kernel_rfl) rfl rfl ?_
        refine EP_s rfl rfl rfl rfl rfl (by exact (os_move rfl)) ?_
        refine EP_s rfl rfl rfl rfl rfl (by exact (os_load_agg (cs := [_, _, _, _, _, _, _, _, _, _]) rfl agg41 (cells_own (own_tail own_head) rfl))) ?_
        refine EP_s rfl rfl rfl rfl rfl (by exact (os_move rfl)) ?_
        refine EP_s rfl rfl rfl rfl rfl (by exact (os_nilCheck rfl)) ?_
        refine EP_s rfl rfl rfl rfl rfl (by exact (os_field rfl fl47_0)) ?_
        refine EP_s rfl rfl rfl rfl rfl (by exact (os_field rfl fl36_0)) ?_
        refine EP_s rfl rfl rfl rfl rfl (by exact (os_field rfl fl33_0)) ?_
        refine EP_s rfl rfl rfl rfl rfl (by exact (os_load_one rfl one22 (cells_own (own_tail (own_tail own_head)) rfl))) ?_
        refine EP_s rfl rfl rfl rfl rfl (by exact (os_field rfl fl41_4)) ?_
        refine EP_s rfl rfl rfl rfl rfl (by exact (os_load_one rfl one22 (cells_own (own_tail own_head) rfl))) ?_
        refine EP_s rfl rfl rfl rfl rfl (by exact (os_struct (cs := [_, _, _, _, _, _, _, _, _, _]) [(0, _), (3, _), (8, _), (4, _)] pl41 z41 rfl rfl)) ?_
        refine EP_perm (mv_6 _ _ _ _ _ _ _ _) ?_
        refine EP_perm (mv_6 _ _ _ _ _ _ _ _) ?_
        refine EP_perm (mv_6 _ _ _ _ _ _ _ _) ?_
        refine EP_perm (mv_3 _ _ _ _ _) ?_
        refine EP_perm (mv_5 _ _ _ _ _ _ _) ?_
        have hr_a80_2 : Msg.Ok I0 (Msg.mk 6 0 0 xr.Term m.Index 0 0 (Sl.mk (Hd.mk none 0 0) []) true (Sl.mk (Hd.mk none 0 0) [])) := ⟨(by first | omega | (dsimp only; omega)), (by first | omega | (dsimp only; omega)), (by first | omega | (dsimp only; omega)), (by first | omega | (dsimp only; omega)), hm.Index, (by first | omega | (dsimp only; omega)), (by first | omega | (dsimp only; omega)), (FRow.none _ _ _), (FRow.none _ _ _)⟩
        refine EP_g rfl rfl rfl rfl rfl (by exact (og_call (vs := [(.pointer (some ⟨br, 0, none⟩)), (.agg (m.cells).toArray), .agg ((Msg.mk 6 0 0 xr.Term m.Index 0 0 (Sl.mk (Hd.mk none 0 0) []) true (Sl.mk (Hd.mk none 0 0) [])).cells).toArray]) body67 rfl (n_answer (NodeAt.intro (Node.mk xr.Term xr.Vote m.Index m.LogTerm (Sl.mk (Hd.mk none 0 0) []) xr.id xr.n xr.limit xr.role xr.lead m.Index xr.clock xr.votes xr.match_ xr.next) hoe1 horb horc hord) (incl_mid [] [_, _, _, _, _] _) hm hr_a80_2 (by first | (simp only [Node.abs]; omega) | (have h1 := hfw.id0; have h2 := hfw.idn; have h3 := hfw.n5; simp only [Node.abs] at h1 h2 h3 ⊢; omega))))) ?_
        intro I80 v80 hI80 hv80
        obtain ⟨y80, rfl, hy80, hay80⟩ := hv80
        refine EP_s rfl rfl rfl rfl rfl (by exact (os_assign rfl)) ?_
        refine EP_nil ?_
        refine EQ_then (EQ_wp ?_)
        refine EW_ret ?_
        exact pn_ret1 [_, _, _, _, _] Try.results112 (rv_tmp rfl) hI80 (Incl.cons (Incl.cons (Incl.cons (Incl.cons (Incl.cons (Incl.skip (Incl.skip (Incl.refl _) _) _) _) _) _) _) _) ⟨(NodeAt.to (Node.mk xr.Term xr.Vote m.Index m.LogTerm (Sl.mk (Hd.mk none 0 0) []) xr.id xr.n xr.limit xr.role xr.lead m.Index xr.clock xr.votes xr.match_ xr.next) (hoe1.mono hI80) (horb.mono hI80) (horc.mono hI80) (hord.mono hI80) (by rw [NodeP.snap, if_neg (show ¬ m.abs.Index ≤ xr.abs.commit from (by show ¬ m.Index ≤ xr.commit; omega)), if_neg (show ¬ m.abs.Term < m.abs.LogTerm from (by show ¬ m.Term < m.LogTerm; omega))]; first | exact hay80 | exact (if_neg (show ¬ xr.abs.termAt m.abs.Index = some m.abs.LogTerm from fun h => by rw [show xr.abs.termAt m.Index = some m.LogTerm from h] at hc47; simp at hc47)).symm)), ⟨y80, rfl, (FRow.mono hy80 (.refl _) (.refl _)), (by rw [NodeP.snap, if_neg (show ¬ m.abs.Index ≤ xr.abs.commit from (by show ¬ m.Index ≤ xr.commit; omega)), if_neg (show ¬ m.abs.Term < m.abs.LogTerm from (by show ¬ m.Term < m.LogTerm; omega))]; first | exact hay80 | exact (if_neg (show ¬ xr.abs.termAt m.abs.Index = some m.abs.LogTerm from fun h => by rw [show xr.abs.termAt m.Index = some m.LogTerm from h] at hc47; simp at hc47)).symm)⟩⟩ (.inl rfl)
      · have hb47 := hc47
        try simp only [Bool.or_eq_true, Bool.and_eq_true, Bool.or_eq_false_iff, Bool.and_eq_false_iff, decide_eq_true_eq, decide_eq_false_iff_not, Bool.not_eq_true', Bool.not_eq_false', Int.natCast_inj, Int.ofNat_lt, Int.ofNat_le] at hc47
        refine EW_skip ?_
        refine EQ_then (EQ_wp ?_)
        refine EW_seq ?_
        -- region 8  raft.go:397
        refine EW_region ?_
        refine EL_s rfl rfl rfl (os_move rfl) ?_
        refine EL_s rfl rfl rfl (os_field rfl fl41_4) ?_
        refine EL_s rfl rfl rfl (os_load_one rfl one22 (cells_own own_head rfl)) ?_
        refine EL_s rfl rfl rfl (os_nilCheck rfl) ?_
        refine EL_s rfl rfl rfl (os_field rfl fl47_6) ?_
        refine EL_u rfl rfl (ox_store rfl rfl sz22 rfl (by rfl) (.tail (.head .head))) ?_
        refine EL_nil ?_
        refine EQ_then (EQ_wp ?_)
        refine EW_seq ?_
        -- region 9 DRAWN  raft.go:398
        refine EW_drawC [] [⟨[], some 69, [0], .s, 0⟩, ⟨[], some 70, [3], .s, 0⟩, ⟨[], some 71, [0], .s, 0⟩, ⟨[2], some 72, [71], .s, 4⟩, ⟨[3], some 73, [72], .s, 12⟩, ⟨[4], some 74, [73], .s, 28⟩, ⟨[5], some 75, [74], .s, 60⟩, ⟨[6], some 76, [75], .s, 124⟩, ⟨[], some 77, [3], .s, 0⟩, ⟨[8], some 78, [77], .s, 256⟩, ⟨[7, 9], some 79, [76, 78], .s, 1020⟩, ⟨[0, 1, 10], some 80, [69, 70, 79], .g, 2047⟩, ⟨[11, 11, 0, 1, 2, 3, 4, 5, 6, 7, 8, 9, 10, 11], some 4, [80], .s, 4095⟩] [.s, .s, .s, .s, .s, .s, .s, .s, .s, .s, .s, .g, .s] [0, 1, 2, 3, 4, 5, 6, 7, 8, 9, 10, 11, 12] mixed (by kernel_rfl) (by kernel_rfl) (by kernel_rfl) rfl rfl ?_
        refine EP_s rfl rfl rfl rfl rfl (by exact (os_move rfl)) ?_
        refine EP_s rfl rfl rfl rfl rfl (by exact (os_load_agg (cs := [_, _, _, _, _, _, _, _, _, _]) rfl agg41 (cells_own own_head rfl))) ?_
        refine EP_s rfl rfl rfl rfl rfl (by exact (os_move rfl)) ?_
        refine EP_s rfl rfl rfl rfl rfl (by exact (os_nilCheck rfl)) ?_
        refine EP_s rfl rfl rfl rfl rfl (by exact (os_field rfl fl47_0)) ?_
        refine EP_s rfl rfl rfl rfl rfl (by exact (os_field rfl fl36_0)) ?_
        refine EP_s rfl rfl rfl rfl rfl (by exact (os_field rfl fl33_0)) ?_
        refine EP_s rfl rfl rfl rfl rfl (by exact (os_load_one rfl one22 (cells_own (own_tail own_head) rfl))) ?_
        refine EP_s rfl rfl rfl rfl rfl (by exact (os_field rfl fl41_4)) ?_
        refine EP_s rfl rfl rfl rfl rfl (by exact (os_load_one rfl one22 (cells_own own_head rfl))) ?_
        refine EP_s rfl rfl rfl rfl rfl (by exact (os_struct (cs := [_, _, _, _, _, _, _, _, _, _]) [(0, _), (3, _), (8, _), (4, _)] pl41 z41 rfl rfl)) ?_
        have hr_a80_2 : Msg.Ok I0 (Msg.mk 6 0 0 xr.Term m.Index 0 0 (Sl.mk (Hd.mk none 0 0) []) true (Sl.mk (Hd.mk none 0 0) [])) := ⟨(by first | omega | (dsimp only; omega)), (by first | omega | (dsimp only; omega)), (by first | omega | (dsimp only; omega)), (by first | omega | (dsimp only; omega)), hm.Index, (by first | omega | (dsimp only; omega)), (by first | omega | (dsimp only; omega)), (FRow.none _ _ _), (FRow.none _ _ _)⟩
        refine EP_g rfl rfl rfl rfl rfl (by exact (og_call (vs := [(.pointer (some ⟨br, 0, none⟩)), (.agg (m.cells).toArray), .agg ((Msg.mk 6 0 0 xr.Term m.Index 0 0 (Sl.mk (Hd.mk none 0 0) []) true (Sl.mk (Hd.mk none 0 0) [])).cells).toArray]) body67 rfl (n_answer (NodeAt.intro (Node.mk xr.Term xr.Vote xr.Base xr.BaseTerm xr.Entries xr.id xr.n xr.limit xr.role xr.lead m.Index xr.clock xr.votes xr.match_ xr.next) hora horb horc hord) (incl_mid [_] [_, _, _, _, _] _) hm hr_a80_2 (by first | (simp only [Node.abs]; omega) | (have h1 := hfw.id0; have h2 := hfw.idn; have h3 := hfw.n5; simp only [Node.abs] at h1 h2 h3 ⊢; omega))))) ?_
        intro I80 v80 hI80 hv80
        obtain ⟨y80, rfl, hy80, hay80⟩ := hv80
        refine EP_s rfl rfl rfl rfl rfl (by exact (os_assign rfl)) ?_
        refine EP_nil ?_
        refine EQ_then (EQ_wp ?_)
        refine EW_ret ?_
        exact pn_ret1 [_, _, _, _, _] Try.results112 (rv_tmp rfl) hI80 (Incl.skip (Incl.cons (Incl.cons (Incl.cons (Incl.cons (Incl.cons (Incl.refl _) _) _) _) _) _) _) ⟨(NodeAt.to (Node.mk xr.Term xr.Vote xr.Base xr.BaseTerm xr.Entries xr.id xr.n xr.limit xr.role xr.lead m.Index xr.clock xr.votes xr.match_ xr.next) (hora.mono hI80) (horb.mono hI80) (horc.mono hI80) (hord.mono hI80) (by rw [NodeP.snap, if_neg (show ¬ m.abs.Index ≤ xr.abs.commit from (by show ¬ m.Index ≤ xr.commit; omega)), if_neg (show ¬ m.abs.Term < m.abs.LogTerm from (by show ¬ m.Term < m.LogTerm; omega))]; first | exact hay80 | exact (if_pos (show xr.abs.termAt m.abs.Index = some m.abs.LogTerm from opt_eq hc47.1 hc47.2)).symm)), ⟨y80, rfl, (FRow.mono hy80 (.refl _) (.refl _)), (by rw [NodeP.snap, if_neg (show ¬ m.abs.Index ≤ xr.abs.commit from (by show ¬ m.Index ≤ xr.commit; omega)), if_neg (show ¬ m.abs.Term < m.abs.LogTerm from (by show ¬ m.Term < m.LogTerm; omega))]; first | exact hay80 | exact (if_pos (show xr.abs.termAt m.abs.Index = some m.abs.LogTerm from opt_eq hc47.1 hc47.2)).symm)⟩⟩ (.inl rfl)


end Go.Proofs.Ytlhibbjnhdcffaa
