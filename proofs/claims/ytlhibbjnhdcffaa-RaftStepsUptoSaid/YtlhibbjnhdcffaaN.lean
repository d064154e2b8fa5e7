/- Proved here: the part N of the proof that the law of this seat returns true for every input; no condition. -/
import Derived.Test.YtlhibbjnhdcffaaM
set_option maxRecDepth 20000
set_option linter.unusedVariables false
set_option linter.unusedSimpArgs false
namespace Go.Proofs.Ytlhibbjnhdcffaa
open Go Go.Gl

theorem NodeP.proper_spec {r : NodeP} {m : MsgP} (h : r.proper m = true) : (0 ≤ m.From ∧ m.From < r.n) ∧ m.To = r.id ∧ ¬ m.From = r.id ∧ (1 ≤ m.Kind ∧ m.Kind ≤ 7) ∧ risingP m.Entries 0 m.Term = true ∧ m.Index ≤ 4611686018427387904 ∧ m.Term ≤ 4611686018427387904 := by
  simp only [NodeP.proper, Bool.and_eq_true, Bool.or_eq_false_iff, Bool.not_eq_true', decide_eq_true_eq, decide_eq_false_iff_not, Bool.not_eq_false'] at h
  refine ⟨⟨by omega, by omega⟩, by omega, by omega, ⟨by omega, by omega⟩, h.2.1.1, by omega, by omega⟩
set_option maxHeartbeats 2000000 in
theorem n_Step {I : Gh} {L : List Seg} {br : Nat} {r : NodeP} {Ssr : List Seg} (hr : NodeAt I br r Ssr) {m : Msg} (hm : Msg.Ok I m) (hp0 : NodeP.Few r) (hp1 : r.Entries.length < 1000000000) (hp2 : r.role = 1 ∨ r.role = 2 → (r.votes.length : Int) = r.n) (hp3 : r.role = 3 → (r.match_.length : Int) = r.n) (hp4 : r.role = 3 → (r.next.length : Int) = r.n) (hp5 : ∀ x ∈ r.match_, x ≤ 9100000000000000000) (hp6 : m.abs.Entries.length ≤ 1000000000) : PN Try.prog 18 #[.pointer (some ⟨br, 0, none⟩), .agg (m.cells).toArray] I L (Ssr) fun K Ss' v => NodeAt K br ((r.step m.abs).1) Ss' ∧ (∃ (y0 : Sl Msg), v = y0.v ∧ FRow rMsg K [] y0 ∧ y0.xs.map Msg.abs = (r.step m.abs).2) := by
  obtain ⟨xr, Sra, Srb, Src, Srd, rfl, rfl, hora, horb, horc, hord⟩ := hr
  refine PN.of (n := 87) Try.func18 rfl Try.ntmps18 rfl fun I0 L0 hI0 hL0 => ?_
  refine EW_perm (nm_5 _ _ _ _ _ _) ?_
  have hora := hora.mono hI0
  have horb := horb.mono hI0
  have horc := horc.mono hI0
  have hord := hord.mono hI0
  have hm := hm.mono hI0
  have hf0 := hp0
  obtain ⟨hfb, hfl, hft, hid0, hidn, hn5, hlim0, hlim1, hclk0, hclk1, hbt, htrm, hcmt⟩ := hf0
  simp only [Node.abs, List.length_map] at hfb hfl hft hid0 hidn hn5 hlim0 hlim1 hclk0 hclk1 hbt htrm hcmt
  have hltm := NodeP.lastTerm_le hp0
  have hlast : NodeP.last xr.abs = xr.Base + xr.Entries.xs.length := by simp [NodeP.last, Node.abs]
  have hmt := hm.Term
  have hmf := hm.From
  refine EW_seq ?_
  -- region 0  raft.go:274
  refine EW_region ?_
  refine EL_a rfl rfl rfl (oa_box rfl) ?_
  intro b3
  refine EL_s rfl rfl rfl (os_assign rfl) ?_
  refine EL_nil ?_
  refine EQ_then (EQ_wp ?_)
  refine EW_seq ?_
  refine EW_seq ?_
  -- region 1  raft.go:275
  refine EW_region ?_
  refine EL_s rfl rfl rfl (os_move rfl) ?_
  refine EL_s rfl rfl rfl (os_load_agg (cs := [_, _, _, _, _, _, _, _, _, _]) rfl agg41 (cells_own own_head rfl)) ?_
  refine EL_s rfl rfl rfl (os_call (vs := [(.pointer (some ⟨br, 0, none⟩)), (.agg (m.cells).toArray)]) body65 rfl (n_proper (NodeAt.intro xr hora horb horc hord) (incl_mid [_] [_, _, _, _, _] _) hm)) ?_
  refine EL_s rfl rfl rfl (os_not rfl) ?_
  refine EL_nil ?_
  refine EQ_then (EQ_wp ?_)
  refine EW_cond rfl (fun hc9 => ?_) (fun hc9 => ?_)
  · have hb9 := hc9
    try simp only [Bool.or_eq_true, Bool.and_eq_true, Bool.or_eq_false_iff, Bool.and_eq_false_iff, decide_eq_true_eq, decide_eq_false_iff_not, Bool.not_eq_true', Bool.not_eq_false', Int.natCast_inj, Int.ofNat_lt, Int.ofNat_le] at hc9
    refine EW_seq ?_
    -- region 2  raft.go:276
    refine EW_region ?_
    refine EL_s rfl rfl rfl (os_assign rfl) ?_
    refine EL_nil ?_
    refine EQ_then (EQ_wp ?_)
    refine EW_ret ?_
    refine EQ_then_ret (?_)
    exact pn_ret1 [_, _, _, _, _] Try.results18 (rv_tmp rfl) (.refl _) (Incl.skip (Incl.cons (Incl.cons (Incl.cons (Incl.cons (Incl.cons (Incl.refl _) _) _) _) _) _) _) ⟨(NodeAt.to xr hora horb horc hord (by rw [NodeP.step, if_pos (show (!xr.abs.proper m.abs) = true from by simp [hc9])]; first | done | rfl)), ⟨(Sl.mk (Hd.mk none 0 0) []), rfl, (FRow.none _ _ _), (by rw [NodeP.step, if_pos (show (!xr.abs.proper m.abs) = true from by simp [hc9])]; first | done | rfl)⟩⟩ (.inl rfl)
  · have hb9 := hc9
    try simp only [Bool.or_eq_true, Bool.and_eq_true, Bool.or_eq_false_iff, Bool.and_eq_false_iff, decide_eq_true_eq, decide_eq_false_iff_not, Bool.not_eq_true', Bool.not_eq_false', Int.natCast_inj, Int.ofNat_lt, Int.ofNat_le] at hc9
    have hpr : xr.abs.proper m.abs = true := by simpa using hc9
    obtain ⟨hpf, hpto, hpfi, hpk, hpri, hpix, hptm⟩ := NodeP.proper_spec hpr
    have hpk1 : 1 ≤ m.Kind ∧ m.Kind ≤ 7 := hpk
    refine EW_skip ?_
    refine EQ_then (EQ_wp ?_)
    refine EW_seq ?_
    refine EW_seq ?_
    -- region 3  raft.go:278
    refine EW_region ?_
    refine EL_s rfl rfl rfl (os_field rfl fl41_0) ?_
    refine EL_s rfl rfl rfl (os_load_one rfl one3 (cells_own own_head rfl)) ?_
    refine EL_nil ?_
    refine EQ_then (EQ_wp ?_)
    refine EW_block ?_
    refine EW_seq ?_
    -- region 4  raft.go:279
    refine EW_region ?_
    refine EL_s rfl rfl rfl (os_eql rfl rfl) ?_
    refine EL_s rfl rfl rfl (os_assign rfl) ?_
    refine EL_nil ?_
    refine EQ_then (EQ_wp ?_)
    refine EW_cond rfl (fun hc12 => ?_) (fun hc12 => ?_)
    · have hb12 := hc12
      try simp only [Bool.or_eq_true, Bool.and_eq_true, Bool.or_eq_false_iff, Bool.and_eq_false_iff, decide_eq_true_eq, decide_eq_false_iff_not, Bool.not_eq_true', Bool.not_eq_false', Int.natCast_inj, Int.ofNat_lt, Int.ofNat_le] at hc12
      refine EW_seq ?_
      -- region 5 DRAWN  raft.go:280
      refine EW_drawC [] [⟨[], some 14, [3], .s, 0⟩, ⟨[0], some 15, [14], .s, 1⟩, ⟨[], some 16, [0], .s, 0⟩, ⟨[2], some 17, [16], .s, 4⟩, ⟨[3], some 18, [17], .s, 12⟩, ⟨[4], some 19, [18], .s, 28⟩, ⟨[5], some 20, [19], .s, 60⟩, ⟨[6], some 21, [20], .s, 124⟩, ⟨[1, 7], some 22, [15, 21], .s, 255⟩, ⟨[8], some 23, [22], .s, 511⟩, ⟨[9], some 24, [0, 23], .s, 1023⟩, ⟨[9], some 25, [3, 23], .s, 1023⟩, ⟨[10, 11, 9, 9], some 26, [24, 25, 23], .s, 4095⟩, ⟨[9, 12], some 27, [23, 26], .s, 8191⟩, ⟨[13, 12], some 28, [27], .s, 16383⟩, ⟨[14], some 29, [0, 28], .s, 32767⟩, ⟨[15, 14], some 30, [29, 28], .s, 65535⟩, ⟨[16, 14], some 31, [30, 28], .s, 131071⟩, ⟨[17, 14], some 32, [31, 28], .s, 262143⟩, ⟨[18, 14], some 33, [32, 28], .s, 524287⟩, ⟨[19, 14, 14], some 34, [33, 28], .s, 1048575⟩, ⟨[20], some 35, [0, 34], .s, 2097151⟩, ⟨[21, 20], some 36, [35, 34], .s, 4194303⟩, ⟨[22, 20], some 37, [36, 34], .s, 8388607⟩, ⟨[23, 20], some 38, [37, 34], .s, 16777215⟩, ⟨[20], some 39, [0, 34], .s, 2097151⟩, ⟨[25, 20], some 40, [39, 34], .s, 35651583⟩, ⟨[26, 20], some 41, [40, 34], .s, 102760447⟩, ⟨[27, 20], some 42, [41, 34], .s, 236978175⟩, ⟨[24, 28, 20], some 43, [38, 42, 34], .s, 536870911⟩, ⟨[20, 29, 14], some 44, [34, 43, 28], .s, 1073741823⟩, ⟨[14, 30], some 45, [28, 44], .s, 2147483647⟩, ⟨[31, 20, 0, 1, 2, 3, 4, 5, 6, 7, 8, 9, 10, 11, 12, 13, 14, 15, 16, 17, 18, 19, 20, 21, 22, 23, 24, 25, 26, 27, 28, 29, 30, 31], some 5, [45], .s, 4294967295⟩] [.s, .s, .s, .s, .s, .s, .s, .s, .s, .s, .s, .s, .s, .s, .s, .s, .s, .s, .s, .s, .s, .s, .s, .s, .s, .s, .s, .s, .s, .s, .s, .s, .s] [0, 1, 2, 3, 4, 5, 6, 7, 8, 9, 10, 11, 12, 13, 14, 15, 16, 17, 18, 19, 20, 21, 22, 23, 24, 25, 26, 27, 28, 29, 30, 31, 32] mixed (by kernel_rfl) (by kernel_rfl) (by kernel_rfl) rfl rfl ?_
      refine EP_s rfl rfl rfl rfl rfl (by exact (os_field rfl fl41_3)) ?_
      refine EP_s rfl rfl rfl rfl rfl (by exact (os_load_one rfl one22 (cells_own own_head rfl))) ?_
      refine EP_s rfl rfl rfl rfl rfl (by exact (os_move rfl)) ?_
      refine EP_s rfl rfl rfl rfl rfl (by exact (os_nilCheck rfl)) ?_
      refine EP_s rfl rfl rfl rfl rfl (by exact (os_field rfl fl47_0)) ?_
      refine EP_s rfl rfl rfl rfl rfl (by exact (os_field rfl fl36_0)) ?_
      refine EP_s rfl rfl rfl rfl rfl (by exact (os_field rfl fl33_0)) ?_
      refine EP_s rfl rfl rfl rfl rfl (by exact (os_load_one rfl one22 (cells_own (own_tail own_head) rfl))) ?_
      refine EP_s rfl rfl rfl rfl rfl (by exact (os_gtr rfl rfl)) ?_
      refine EP_s rfl rfl rfl rfl rfl (by exact (os_move rfl)) ?_
      refine EP_joint 4 27 (.bool ((decide (((xr.Term : Nat) : Int) < ((m.Term : Nat) : Int))) && ((xr.abs).upToDate m.abs))) [10, 11, 12, 13] rfl rfl rfl ?_ ?_
      · skip
        refine ES_case (decide (((xr.Term : Nat) : Int) < ((m.Term : Nat) : Int))) (fun hg23 => ?_) (fun hg23 => ?_)
        · have hg23_ := hg23
          try simp only [Bool.or_eq_true, Bool.and_eq_true, Bool.or_eq_false_iff, Bool.and_eq_false_iff, decide_eq_true_eq, decide_eq_false_iff_not, Bool.not_eq_true', Bool.not_eq_false', Int.natCast_inj, Int.ofNat_lt, Int.ofNat_le] at hg23_
          refine ES_yes (j := 9) (b := true) rfl rfl rfl hg23 rfl rfl (os_move rfl) ?_
          refine ES_yes (j := 9) (b := true) rfl rfl rfl hg23 rfl rfl (os_load_agg (cs := [_, _, _, _, _, _, _, _, _, _]) rfl agg41 (cells_own own_head rfl)) ?_
          refine ES_yes (j := 9) (b := true) rfl rfl rfl hg23 rfl rfl (os_call (vs := [(.pointer (some ⟨br, 0, none⟩)), (.agg (m.cells).toArray)]) body66 rfl (n_upToDate (NodeAt.intro xr hora horb horc hord) (incl_mid [_] [_, _, _, _, _] _) hm (by exact hp0))) ?_
          refine ES_s rfl rfl rfl (os_pick_t' rfl hg23 rfl) ?_
          exact ES_fin 4 rfl rfl (by rw [hg23]; rfl)
        · have hg23_ := hg23
          try simp only [Bool.or_eq_true, Bool.and_eq_true, Bool.or_eq_false_iff, Bool.and_eq_false_iff, decide_eq_true_eq, decide_eq_false_iff_not, Bool.not_eq_true', Bool.not_eq_false', Int.natCast_inj, Int.ofNat_lt, Int.ofNat_le] at hg23_
          refine ES_no rfl hg23 rfl rfl rfl rfl ?_
          refine ES_no rfl hg23 rfl rfl rfl rfl ?_
          refine ES_no rfl hg23 rfl rfl rfl rfl ?_
          refine ES_s rfl rfl rfl (os_pick_f' rfl hg23 rfl) ?_
          exact ES_fin 4 rfl rfl (by rw [hg23]; rfl)
      refine EP_s rfl rfl rfl rfl rfl (by exact (os_move rfl)) ?_
      refine EP_joint 17 45 (.bool (((decide (((xr.Term : Nat) : Int) < ((m.Term : Nat) : Int))) && ((xr.abs).upToDate m.abs)) && ((decide (xr.lead = (-1))) || (decide (xr.limit ≤ xr.clock))))) [15, 16, 17, 18, 19, 20, 21, 22, 23, 24, 25, 26, 27, 28, 29, 30, 31] rfl rfl rfl ?_ ?_
      · skip
        refine ES_case ((decide (((xr.Term : Nat) : Int) < ((m.Term : Nat) : Int))) && ((xr.abs).upToDate m.abs)) (fun hg28 => ?_) (fun hg28 => ?_)
        · have hg28_ := hg28
          try simp only [Bool.or_eq_true, Bool.and_eq_true, Bool.or_eq_false_iff, Bool.and_eq_false_iff, decide_eq_true_eq, decide_eq_false_iff_not, Bool.not_eq_true', Bool.not_eq_false', Int.natCast_inj, Int.ofNat_lt, Int.ofNat_le] at hg28_
          refine ES_yes (j := 14) (b := true) rfl rfl rfl hg28 rfl rfl (os_move rfl) ?_
          refine ES_yes (j := 14) (b := true) rfl rfl rfl hg28 rfl rfl (os_nilCheck rfl) ?_
          refine ES_yes (j := 14) (b := true) rfl rfl rfl hg28 rfl rfl (os_field rfl fl47_5) ?_
          refine ES_yes (j := 14) (b := true) rfl rfl rfl hg28 rfl rfl (os_load_one rfl one3 (cells_own (own_tail own_head) rfl)) ?_
          refine ES_yes (j := 14) (b := true) rfl rfl rfl hg28 rfl rfl (os_eql rfl rfl) ?_
          refine ES_yes (j := 14) (b := true) rfl rfl rfl hg28 rfl rfl (os_move rfl) ?_
          refine ES_case (decide (xr.lead = (-1))) (fun hg34 => ?_) (fun hg34 => ?_)
          · have hg34_ := hg34
            try simp only [Bool.or_eq_true, Bool.and_eq_true, Bool.or_eq_false_iff, Bool.and_eq_false_iff, decide_eq_true_eq, decide_eq_false_iff_not, Bool.not_eq_true', Bool.not_eq_false', Int.natCast_inj, Int.ofNat_lt, Int.ofNat_le] at hg34_
            refine ES_no rfl hg34 rfl rfl rfl rfl ?_
            refine ES_no rfl hg34 rfl rfl rfl rfl ?_
            refine ES_no rfl hg34 rfl rfl rfl rfl ?_
            refine ES_no rfl hg34 rfl rfl rfl rfl ?_
            refine ES_no rfl hg34 rfl rfl rfl rfl ?_
            refine ES_no rfl hg34 rfl rfl rfl rfl ?_
            refine ES_no rfl hg34 rfl rfl rfl rfl ?_
            refine ES_no rfl hg34 rfl rfl rfl rfl ?_
            refine ES_no rfl hg34 rfl rfl rfl rfl ?_
            refine ES_yes (j := 14) (b := true) rfl rfl rfl hg28 rfl rfl (os_pick_t' rfl hg34 rfl) ?_
            refine ES_s rfl rfl rfl (os_pick_t' rfl hg28 rfl) ?_
            exact ES_fin 17 rfl rfl (by rw [hg28, hg34]; rfl)
          · have hg34_ := hg34
            try simp only [Bool.or_eq_true, Bool.and_eq_true, Bool.or_eq_false_iff, Bool.and_eq_false_iff, decide_eq_true_eq, decide_eq_false_iff_not, Bool.not_eq_true', Bool.not_eq_false', Int.natCast_inj, Int.ofNat_lt, Int.ofNat_le] at hg34_
            refine ES_yes (j := 20) (b := false) rfl rfl rfl hg34 rfl rfl (os_move rfl) ?_
            refine ES_yes (j := 20) (b := false) rfl rfl rfl hg34 rfl rfl (os_nilCheck rfl) ?_
            refine ES_yes (j := 20) (b := false) rfl rfl rfl hg34 rfl rfl (os_field rfl fl47_7) ?_
            refine ES_yes (j := 20) (b := false) rfl rfl rfl hg34 rfl rfl (os_load_one rfl one3 (cells_own (own_tail own_head) rfl)) ?_
            refine ES_yes (j := 20) (b := false) rfl rfl rfl hg34 rfl rfl (os_move rfl) ?_
            refine ES_yes (j := 20) (b := false) rfl rfl rfl hg34 rfl rfl (os_nilCheck rfl) ?_
            refine ES_yes (j := 20) (b := false) rfl rfl rfl hg34 rfl rfl (os_field rfl fl47_3) ?_
            refine ES_yes (j := 20) (b := false) rfl rfl rfl hg34 rfl rfl (os_load_one rfl one3 (cells_own (own_tail own_head) rfl)) ?_
            refine ES_yes (j := 20) (b := false) rfl rfl rfl hg34 rfl rfl (os_geq rfl rfl) ?_
            refine ES_yes (j := 14) (b := true) rfl rfl rfl hg28 rfl rfl (os_pick_f' rfl hg34 rfl) ?_
            refine ES_s rfl rfl rfl (os_pick_t' rfl hg28 rfl) ?_
            exact ES_fin 17 rfl rfl (by rw [hg28, hg34]; rfl)
        · have hg28_ := hg28
          try simp only [Bool.or_eq_true, Bool.and_eq_true, Bool.or_eq_false_iff, Bool.and_eq_false_iff, decide_eq_true_eq, decide_eq_false_iff_not, Bool.not_eq_true', Bool.not_eq_false', Int.natCast_inj, Int.ofNat_lt, Int.ofNat_le] at hg28_
          refine ES_no rfl hg28 rfl rfl rfl rfl ?_
          refine ES_no rfl hg28 rfl rfl rfl rfl ?_
          refine ES_no rfl hg28 rfl rfl rfl rfl ?_
          refine ES_no rfl hg28 rfl rfl rfl rfl ?_
          refine ES_no rfl hg28 rfl rfl rfl rfl ?_
          refine ES_no rfl hg28 rfl rfl rfl rfl ?_
          refine ES_nou rfl rfl rfl rfl rfl ?_
          refine ES_nou rfl rfl rfl rfl rfl ?_
          refine ES_nou rfl rfl rfl rfl rfl ?_
          refine ES_nou rfl rfl rfl rfl rfl ?_
          refine ES_nou rfl rfl rfl rfl rfl ?_
          refine ES_nou rfl rfl rfl rfl rfl ?_
          refine ES_nou rfl rfl rfl rfl rfl ?_
          refine ES_nou rfl rfl rfl rfl rfl ?_
          refine ES_nou rfl rfl rfl rfl rfl ?_
          refine ES_no rfl hg28 rfl rfl rfl rfl ?_
          refine ES_s rfl rfl rfl (os_pick_f' rfl hg28 rfl) ?_
          exact ES_fin 17 rfl rfl (by rw [hg28]; rfl)
      refine EP_s rfl rfl rfl rfl rfl (by exact (os_assign rfl)) ?_
      refine EP_nil ?_
      refine EQ_then (EQ_wp ?_)
      refine EW_seq ?_
      refine EW_seq ?_
      -- region 6  raft.go:281
      refine EW_region ?_
      refine EL_s rfl rfl rfl (os_move rfl) ?_
      refine EL_nil ?_
      refine EQ_then (EQ_wp ?_)
      refine EW_cond rfl (fun hc46 => ?_) (fun hc46 => ?_)
      · have hb46 := hc46
        try simp only [Bool.or_eq_true, Bool.and_eq_true, Bool.or_eq_false_iff, Bool.and_eq_false_iff, decide_eq_true_eq, decide_eq_false_iff_not, Bool.not_eq_true', Bool.not_eq_false', Int.natCast_inj, Int.ofNat_lt, Int.ofNat_le] at hc46
        refine EW_seq ?_
        -- region 7  raft.go:282
        refine EW_region ?_
        have hgq : (((decide (((xr.Term : Nat) : Int) < ((m.Term : Nat) : Int))) && ((xr.abs).upToDate m.abs)) && ((decide (xr.lead = (-1))) || (decide (xr.limit ≤ xr.clock)))) = (decide (xr.abs.Term < m.abs.Term) && xr.abs.upToDate m.abs && (decide (xr.abs.lead = -1) || decide (xr.abs.limit ≤ xr.abs.clock))) := by rw [Bool.eq_iff_iff]; simp only [Bool.and_eq_true, Bool.or_eq_true, decide_eq_true_eq, Int.natCast_inj, Int.ofNat_lt]; exact Iff.rfl
        rw [hgq] at hb46
        refine EL_s rfl rfl rfl (os_move rfl) ?_
        refine EL_s rfl rfl rfl (os_load_agg (cs := [_, _, _, _, _, _, _, _, _, _]) rfl agg41 (cells_own own_head rfl)) ?_
        refine EL_s rfl rfl rfl (os_field rfl fl41_3) ?_
        refine EL_s rfl rfl rfl (os_load_one rfl one22 (cells_own own_head rfl)) ?_
        refine EL_s rfl rfl rfl (os_struct (cs := [_, _, _, _, _, _, _, _, _, _]) [(0, _), (3, _), (8, _)] pl41 z41 rfl rfl) ?_
        have hr_a52_2 : Msg.Ok I0 (Msg.mk 2 0 0 m.Term 0 0 0 (Sl.mk (Hd.mk none 0 0) []) true (Sl.mk (Hd.mk none 0 0) [])) := ⟨(by first | omega | (dsimp only; omega)), (by first | omega | (dsimp only; omega)), (by first | omega | (dsimp only; omega)), hm.Term, (by first | omega | (dsimp only; omega)), (by first | omega | (dsimp only; omega)), (by first | omega | (dsimp only; omega)), (FRow.none _ _ _), (FRow.none _ _ _)⟩
        refine EL_g rfl rfl rfl (og_call (vs := [(.pointer (some ⟨br, 0, none⟩)), (.agg (m.cells).toArray), .agg ((Msg.mk 2 0 0 m.Term 0 0 0 (Sl.mk (Hd.mk none 0 0) []) true (Sl.mk (Hd.mk none 0 0) [])).cells).toArray]) body67 rfl (n_answer (NodeAt.intro xr hora horb horc hord) (incl_mid [_] [_, _, _, _, _] _) hm hr_a52_2 (by first | (simp only [Node.abs]; omega) | (have h1 := hfw.id0; have h2 := hfw.idn; have h3 := hfw.n5; simp only [Node.abs] at h1 h2 h3 ⊢; omega)))) ?_
        intro I52 v52 hI52 hv52
        obtain ⟨y52, rfl, hy52, hay52⟩ := hv52
        refine EL_s rfl rfl rfl (os_assign rfl) ?_
        refine EL_nil ?_
        refine EQ_then (EQ_wp ?_)
        refine EW_ret ?_
        refine EQ_then_ret (EQ_block_ret (EQ_then_ret (?_)))
        exact pn_ret1 [_, _, _, _, _] Try.results18 (rv_tmp rfl) hI52 (Incl.skip (Incl.cons (Incl.cons (Incl.cons (Incl.cons (Incl.cons (Incl.refl _) _) _) _) _) _) _) ⟨(NodeAt.to xr (hora.mono hI52) (horb.mono hI52) (horc.mono hI52) (hord.mono hI52) (by rw [NodeP.step, if_neg (show ¬ (!xr.abs.proper m.abs) = true from by rw [hpr]; decide), if_pos (show m.abs.Kind = 1 from (by show m.Kind = 1; omega))]; first | done | rfl | exact hay52.trans (if_pos hb46).symm)), ⟨y52, rfl, (FRow.mono hy52 (.refl _) (.refl _)), (by rw [NodeP.step, if_neg (show ¬ (!xr.abs.proper m.abs) = true from by rw [hpr]; decide), if_pos (show m.abs.Kind = 1 from (by show m.Kind = 1; omega))]; first | done | rfl | exact hay52.trans (if_pos hb46).symm)⟩⟩ (.inl rfl)
      · have hb46 := hc46
        try simp only [Bool.or_eq_true, Bool.and_eq_true, Bool.or_eq_false_iff, Bool.and_eq_false_iff, decide_eq_true_eq, decide_eq_false_iff_not, Bool.not_eq_true', Bool.not_eq_false', Int.natCast_inj, Int.ofNat_lt, Int.ofNat_le] at hc46
        refine EW_skip ?_
        refine EQ_then (EQ_wp ?_)
        refine EW_seq ?_
        -- region 8 DRAWN  raft.go:284
        refine EW_drawC [] [⟨[], some 53, [0], .s, 0⟩, ⟨[], some 54, [3], .s, 0⟩, ⟨[], some 55, [0], .s, 0⟩, ⟨[2], some 56, [55], .s, 4⟩, ⟨[3], some 57, [56], .s, 12⟩, ⟨[4], some 58, [57], .s, 28⟩, ⟨[5], some 59, [58], .s, 60⟩, ⟨[6], some 60, [59], .s, 124⟩, ⟨[7], some 61, [60], .s, 252⟩, ⟨[0, 1, 8], some 62, [53, 54, 61], .g, 511⟩, ⟨[9, 9, 0, 1, 2, 3, 4, 5, 6, 7, 8, 9], some 4, [62], .s, 1023⟩] [.s, .s, .s, .s, .s, .s, .s, .s, .s, .g, .s] [0, 1, 2, 3, 4, 5, 6, 7, 8, 9, 10] mixed (by kernel_rfl) (by kernel_rfl) (by kernel_rfl) rfl rfl ?_
        have hgq : (((decide (((xr.Term : Nat) : Int) < ((m.Term : Nat) : Int))) && ((xr.abs).upToDate m.abs)) && ((decide (xr.lead = (-1))) || (decide (xr.limit ≤ xr.clock)))) = (decide (xr.abs.Term < m.abs.Term) && xr.abs.upToDate m.abs && (decide (xr.abs.lead = -1) || decide (xr.abs.limit ≤ xr.abs.clock))) := by rw [Bool.eq_iff_iff]; simp only [Bool.and_eq_true, Bool.or_eq_true, decide_eq_true_eq, Int.natCast_inj, Int.ofNat_lt]; exact Iff.rfl
        rw [hgq] at hb46
        refine EP_s rfl rfl rfl rfl rfl (by exact (os_move rfl)) ?_
        refine EP_s rfl rfl rfl rfl rfl (by exact (os_load_agg (cs := [_, _, _, _, _, _, _, _, _, _]) rfl agg41 (cells_own own_head rfl))) ?_
        refine EP_s rfl rfl rfl rfl rfl (by exact (os_move rfl)) ?_
        refine EP_s rfl rfl rfl rfl rfl (by exact (os_nilCheck rfl)) ?_
        refine EP_s rfl rfl rfl rfl rfl (by exact (os_field rfl fl47_0)) ?_
        refine EP_s rfl rfl rfl rfl rfl (by exact (os_field rfl fl36_0)) ?_
        refine EP_s rfl rfl rfl rfl rfl (by exact (os_field rfl fl33_0)) ?_
        refine EP_s rfl rfl rfl rfl rfl (by exact (os_load_one rfl one22 (cells_own (own_tail own_head) rfl))) ?_
        refine EP_s rfl rfl rfl rfl rfl (by exact (os_struct (cs := [_, _, _, _, _, _, _, _, _, _]) [(0, _), (3, _)] pl41 z41 rfl rfl)) ?_
        have hr_a62_2 : Msg.Ok I0 (Msg.mk 2 0 0 xr.Term 0 0 0 (Sl.mk (Hd.mk none 0 0) []) false (Sl.mk (Hd.mk none 0 0) [])) := ⟨(by first | omega | (dsimp only; omega)), (by first | omega | (dsimp only; omega)), (by first | omega | (dsimp only; omega)), (by first | omega | (dsimp only; omega)), (by first | omega | (dsimp only; omega)), (by first | omega | (dsimp only; omega)), (by first | omega | (dsimp only; omega)), (FRow.none _ _ _), (FRow.none _ _ _)⟩
        refine EP_g rfl rfl rfl rfl rfl (by exact (og_call (vs := [(.pointer (some ⟨br, 0, none⟩)), (.agg (m.cells).toArray), .agg ((Msg.mk 2 0 0 xr.Term 0 0 0 (Sl.mk (Hd.mk none 0 0) []) false (Sl.mk (Hd.mk none 0 0) [])).cells).toArray]) body67 rfl (n_answer (NodeAt.intro xr hora horb horc hord) (incl_mid [_] [_, _, _, _, _] _) hm hr_a62_2 (by first | (simp only [Node.abs]; omega) | (have h1 := hfw.id0; have h2 := hfw.idn; have h3 := hfw.n5; simp only [Node.abs] at h1 h2 h3 ⊢; omega))))) ?_
        intro I62 v62 hI62 hv62
        obtain ⟨y62, rfl, hy62, hay62⟩ := hv62
        refine EP_s rfl rfl rfl rfl rfl (by exact (os_assign rfl)) ?_
        refine EP_nil ?_
        refine EQ_then (EQ_wp ?_)
        refine EW_ret ?_
        refine EQ_block_ret (EQ_then_ret (?_))
        exact pn_ret1 [_, _, _, _, _] Try.results18 (rv_tmp rfl) hI62 (Incl.skip (Incl.cons (Incl.cons (Incl.cons (Incl.cons (Incl.cons (Incl.refl _) _) _) _) _) _) _) ⟨(NodeAt.to xr (hora.mono hI62) (horb.mono hI62) (horc.mono hI62) (hord.mono hI62) (by rw [NodeP.step, if_neg (show ¬ (!xr.abs.proper m.abs) = true from by rw [hpr]; decide), if_pos (show m.abs.Kind = 1 from (by show m.Kind = 1; omega))]; first | done | rfl | exact hay62.trans (if_neg (ne_true_of_eq_false hb46)).symm)), ⟨y62, rfl, (FRow.mono hy62 (.refl _) (.refl _)), (by rw [NodeP.step, if_neg (show ¬ (!xr.abs.proper m.abs) = true from by rw [hpr]; decide), if_pos (show m.abs.Kind = 1 from (by show m.Kind = 1; omega))]; first | done | rfl | exact hay62.trans (if_neg (ne_true_of_eq_false hb46)).symm)⟩⟩ (.inl rfl)
    · have hb12 := hc12
      try simp only [Bool.or_eq_true, Bool.and_eq_true, Bool.or_eq_false_iff, Bool.and_eq_false_iff, decide_eq_true_eq, decide_eq_false_iff_not, Bool.not_eq_true', Bool.not_eq_false', Int.natCast_inj, Int.ofNat_lt, Int.ofNat_le] at hc12
      refine EW_seq ?_
      -- region 9  raft.go:285
      refine EW_region ?_
      refine EL_s rfl rfl rfl (os_eql rfl rfl) ?_
      refine EL_s rfl rfl rfl (os_assign rfl) ?_
      refine EL_nil ?_
      refine EQ_then (EQ_wp ?_)
      refine EW_cond rfl (fun hc63 => ?_) (fun hc63 => ?_)
      · have hb63 := hc63
        try simp only [Bool.or_eq_true, Bool.and_eq_true, Bool.or_eq_false_iff, Bool.and_eq_false_iff, decide_eq_true_eq, decide_eq_false_iff_not, Bool.not_eq_true', Bool.not_eq_false', Int.natCast_inj, Int.ofNat_lt, Int.ofNat_le] at hc63
        refine EW_seq ?_
        -- region 10  raft.go:286
        refine EW_region ?_
        refine EL_s rfl rfl rfl (os_move rfl) ?_
        refine EL_s rfl rfl rfl (os_load_agg (cs := [_, _, _, _, _, _, _, _, _, _]) rfl agg41 (cells_own own_head rfl)) ?_
        refine EL_x rfl rfl (ox_callN (vs := [(.pointer (some ⟨br, 0, none⟩)), (.agg (m.cells).toArray)]) body68 rfl (pl_1_5 _ _ _ _ _ _ _) (n_preVoted (NodeAt.intro xr hora horb horc hord) hm (by exact hp0) (by omega) (by omega) (by omega) (by omega))) ?_
        rintro I67 L67 v67 hI67 ⟨Ss67, rfl, ⟨x67, S67a, S67b, S67c, S67d, hx67, rfl, ho67a, ho67b, ho67c, ho67d⟩, ⟨y67, rfl, hy67, hay67⟩⟩
        refine EL_perm (nm_5 _ _ _ _ _ _) ?_
        refine EL_s rfl rfl rfl (os_assign rfl) ?_
        refine EL_nil ?_
        refine EQ_then (EQ_wp ?_)
        refine EW_ret ?_
        refine EQ_block_ret (EQ_then_ret (?_))
        exact pn_ret1 [_, _, _, _, _] Try.results18 (rv_tmp rfl) hI67 (Incl.cons (Incl.cons (Incl.cons (Incl.cons (Incl.cons (Incl.skip (Incl.refl _) _) _) _) _) _) _) ⟨(NodeAt.to x67 ho67a ho67b ho67c ho67d (by rw [NodeP.step, if_neg (show ¬ (!xr.abs.proper m.abs) = true from by rw [hpr]; decide), if_neg (show ¬ m.abs.Kind = 1 from (by show ¬ m.Kind = 1; omega)), if_pos (show m.abs.Kind = 2 from (by show m.Kind = 2; omega))]; first | exact hx67 | exact hay67)), ⟨y67, rfl, (FRow.mono hy67 (.refl _) (.refl _)), (by rw [NodeP.step, if_neg (show ¬ (!xr.abs.proper m.abs) = true from by rw [hpr]; decide), if_neg (show ¬ m.abs.Kind = 1 from (by show ¬ m.Kind = 1; omega)), if_pos (show m.abs.Kind = 2 from (by show m.Kind = 2; omega))]; first | exact hx67 | exact hay67)⟩⟩ (.inl rfl)
      · have hb63 := hc63
        try simp only [Bool.or_eq_true, Bool.and_eq_true, Bool.or_eq_false_iff, Bool.and_eq_false_iff, decide_eq_true_eq, decide_eq_false_iff_not, Bool.not_eq_true', Bool.not_eq_false', Int.natCast_inj, Int.ofNat_lt, Int.ofNat_le] at hc63
        refine EW_seq ?_
        -- region 11  raft.go:287
        refine EW_region ?_
        refine EL_s rfl rfl rfl (os_eql rfl rfl) ?_
        refine EL_s rfl rfl rfl (os_assign rfl) ?_
        refine EL_nil ?_
        refine EQ_then (EQ_wp ?_)
        refine EW_cond rfl (fun hc68 => ?_) (fun hc68 => ?_)
        · have hb68 := hc68
          try simp only [Bool.or_eq_true, Bool.and_eq_true, Bool.or_eq_false_iff, Bool.and_eq_false_iff, decide_eq_true_eq, decide_eq_false_iff_not, Bool.not_eq_true', Bool.not_eq_false', Int.natCast_inj, Int.ofNat_lt, Int.ofNat_le] at hc68
          refine EW_seq ?_
          -- region 12  raft.go:288
          refine EW_region ?_
          refine EL_s rfl rfl rfl (os_move rfl) ?_
          refine EL_s rfl rfl rfl (os_load_agg (cs := [_, _, _, _, _, _, _, _, _, _]) rfl agg41 (cells_own own_head rfl)) ?_
          refine EL_x rfl rfl (ox_callN (vs := [(.pointer (some ⟨br, 0, none⟩)), (.agg (m.cells).toArray)]) body69 rfl (pl_1_5 _ _ _ _ _ _ _) (n_vote (NodeAt.intro xr hora horb horc hord) hm (by exact hp0) (by omega) (by omega))) ?_
          rintro I72 L72 v72 hI72 ⟨Ss72, rfl, ⟨x72, S72a, S72b, S72c, S72d, hx72, rfl, ho72a, ho72b, ho72c, ho72d⟩, ⟨y72, rfl, hy72, hay72⟩⟩
          refine EL_perm (nm_5 _ _ _ _ _ _) ?_
          refine EL_s rfl rfl rfl (os_assign rfl) ?_
          refine EL_nil ?_
          refine EQ_then (EQ_wp ?_)
          refine EW_ret ?_
          refine EQ_block_ret (EQ_then_ret (?_))
          exact pn_ret1 [_, _, _, _, _] Try.results18 (rv_tmp rfl) hI72 (Incl.cons (Incl.cons (Incl.cons (Incl.cons (Incl.cons (Incl.skip (Incl.refl _) _) _) _) _) _) _) ⟨(NodeAt.to x72 ho72a ho72b ho72c ho72d (by rw [NodeP.step, if_neg (show ¬ (!xr.abs.proper m.abs) = true from by rw [hpr]; decide), if_neg (show ¬ m.abs.Kind = 1 from (by show ¬ m.Kind = 1; omega)), if_neg (show ¬ m.abs.Kind = 2 from (by show ¬ m.Kind = 2; omega)), if_pos (show m.abs.Kind = 3 from (by show m.Kind = 3; omega))]; first | exact hx72 | exact hay72)), ⟨y72, rfl, (FRow.mono hy72 (.refl _) (.refl _)), (by rw [NodeP.step, if_neg (show ¬ (!xr.abs.proper m.abs) = true from by rw [hpr]; decide), if_neg (show ¬ m.abs.Kind = 1 from (by show ¬ m.Kind = 1; omega)), if_neg (show ¬ m.abs.Kind = 2 from (by show ¬ m.Kind = 2; omega)), if_pos (show m.abs.Kind = 3 from (by show m.Kind = 3; omega))]; first | exact hx72 | exact hay72)⟩⟩ (.inl rfl)
        · have hb68 := hc68
          try simp only [Bool.or_eq_true, Bool.and_eq_true, Bool.or_eq_false_iff, Bool.and_eq_false_iff, decide_eq_true_eq, decide_eq_false_iff_not, Bool.not_eq_true', Bool.not_eq_false', Int.natCast_inj, Int.ofNat_lt, Int.ofNat_le] at hc68
          refine EW_seq ?_
          -- region 13  raft.go:289
          refine EW_region ?_
          refine EL_s rfl rfl rfl (os_eql rfl rfl) ?_
          refine EL_s rfl rfl rfl (os_assign rfl) ?_
          refine EL_nil ?_
          refine EQ_then (EQ_wp ?_)
          refine EW_cond rfl (fun hc73 => ?_) (fun hc73 => ?_)
          · have hb73 := hc73
            try simp only [Bool.or_eq_true, Bool.and_eq_true, Bool.or_eq_false_iff, Bool.and_eq_false_iff, decide_eq_true_eq, decide_eq_false_iff_not, Bool.not_eq_true', Bool.not_eq_false', Int.natCast_inj, Int.ofNat_lt, Int.ofNat_le] at hc73
            refine EW_seq ?_
            -- region 14  raft.go:290
            refine EW_region ?_
            refine EL_s rfl rfl rfl (os_move rfl) ?_
            refine EL_s rfl rfl rfl (os_load_agg (cs := [_, _, _, _, _, _, _, _, _, _]) rfl agg41 (cells_own own_head rfl)) ?_
            refine EL_x rfl rfl (ox_callN (vs := [(.pointer (some ⟨br, 0, none⟩)), (.agg (m.cells).toArray)]) body70 rfl (pl_1_5 _ _ _ _ _ _ _) (n_voted (NodeAt.intro xr hora horb horc hord) hm (by exact hp0) (by omega) (by omega) (by omega) (by omega))) ?_
            rintro I77 L77 v77 hI77 ⟨Ss77, rfl, ⟨x77, S77a, S77b, S77c, S77d, hx77, rfl, ho77a, ho77b, ho77c, ho77d⟩, ⟨y77, rfl, hy77, hay77⟩⟩
            refine EL_perm (nm_5 _ _ _ _ _ _) ?_
            refine EL_s rfl rfl rfl (os_assign rfl) ?_
            refine EL_nil ?_
            refine EQ_then (EQ_wp ?_)
            refine EW_ret ?_
            refine EQ_block_ret (EQ_then_ret (?_))
            exact pn_ret1 [_, _, _, _, _] Try.results18 (rv_tmp rfl) hI77 (Incl.cons (Incl.cons (Incl.cons (Incl.cons (Incl.cons (Incl.skip (Incl.refl _) _) _) _) _) _) _) ⟨(NodeAt.to x77 ho77a ho77b ho77c ho77d (by rw [NodeP.step, if_neg (show ¬ (!xr.abs.proper m.abs) = true from by rw [hpr]; decide), if_neg (show ¬ m.abs.Kind = 1 from (by show ¬ m.Kind = 1; omega)), if_neg (show ¬ m.abs.Kind = 2 from (by show ¬ m.Kind = 2; omega)), if_neg (show ¬ m.abs.Kind = 3 from (by show ¬ m.Kind = 3; omega)), if_pos (show m.abs.Kind = 4 from (by show m.Kind = 4; omega))]; first | exact hx77 | exact hay77)), ⟨y77, rfl, (FRow.mono hy77 (.refl _) (.refl _)), (by rw [NodeP.step, if_neg (show ¬ (!xr.abs.proper m.abs) = true from by rw [hpr]; decide), if_neg (show ¬ m.abs.Kind = 1 from (by show ¬ m.Kind = 1; omega)), if_neg (show ¬ m.abs.Kind = 2 from (by show ¬ m.Kind = 2; omega)), if_neg (show ¬ m.abs.Kind = 3 from (by show ¬ m.Kind = 3; omega)), if_pos (show m.abs.Kind = 4 from (by show m.Kind = 4; omega))]; first | exact hx77 | exact hay77)⟩⟩ (.inl rfl)
          · have hb73 := hc73
            try simp only [Bool.or_eq_true, Bool.and_eq_true, Bool.or_eq_false_iff, Bool.and_eq_false_iff, decide_eq_true_eq, decide_eq_false_iff_not, Bool.not_eq_true', Bool.not_eq_false', Int.natCast_inj, Int.ofNat_lt, Int.ofNat_le] at hc73
            refine EW_seq ?_
            refine EW_seq ?_
            -- region 15  raft.go:291
            refine EW_region ?_
            refine EL_s rfl rfl rfl (os_eql rfl rfl) ?_
            refine EL_s rfl rfl rfl (os_assign rfl) ?_
            refine EL_nil ?_
            refine EQ_then (EQ_wp ?_)
            refine EW_cond rfl (fun hc78 => ?_) (fun hc78 => ?_)
            · have hb78 := hc78
              try simp only [Bool.or_eq_true, Bool.and_eq_true, Bool.or_eq_false_iff, Bool.and_eq_false_iff, decide_eq_true_eq, decide_eq_false_iff_not, Bool.not_eq_true', Bool.not_eq_false', Int.natCast_inj, Int.ofNat_lt, Int.ofNat_le] at hc78
              refine EW_skip ?_
              refine EQ_then (EQ_wp ?_)
              refine EW_cond rfl (fun hc78 => ?_) (fun hc78 => ?_)
              · have hb78 := hc78
                try simp only [Bool.or_eq_true, Bool.and_eq_true, Bool.or_eq_false_iff, Bool.and_eq_false_iff, decide_eq_true_eq, decide_eq_false_iff_not, Bool.not_eq_true', Bool.not_eq_false', Int.natCast_inj, Int.ofNat_lt, Int.ofNat_le] at hc78
                refine EW_seq ?_
                -- region 17  raft.go:292
                refine EW_region ?_
                refine EL_s rfl rfl rfl (os_move rfl) ?_
                refine EL_s rfl rfl rfl (os_load_agg (cs := [_, _, _, _, _, _, _, _, _, _]) rfl agg41 (cells_own own_head rfl)) ?_
                refine EL_x rfl rfl (ox_callN (vs := [(.pointer (some ⟨br, 0, none⟩)), (.agg (m.cells).toArray)]) body71 rfl (pl_1_5 _ _ _ _ _ _ _) (n_led (NodeAt.intro xr hora horb horc hord) hm (by exact hp0) (by omega) (by omega) (by omega) (by omega))) ?_
                rintro I83 L83 v83 hI83 ⟨Ss83, rfl, ⟨x83, S83a, S83b, S83c, S83d, hx83, rfl, ho83a, ho83b, ho83c, ho83d⟩, ⟨y83, rfl, hy83, hay83⟩⟩
                refine EL_perm (nm_5 _ _ _ _ _ _) ?_
                refine EL_s rfl rfl rfl (os_assign rfl) ?_
                refine EL_nil ?_
                refine EQ_then (EQ_wp ?_)
                refine EW_ret ?_
                refine EQ_block_ret (EQ_then_ret (?_))
                exact pn_ret1 [_, _, _, _, _] Try.results18 (rv_tmp rfl) hI83 (Incl.cons (Incl.cons (Incl.cons (Incl.cons (Incl.cons (Incl.skip (Incl.refl _) _) _) _) _) _) _) ⟨(NodeAt.to x83 ho83a ho83b ho83c ho83d (by rw [NodeP.step, if_neg (show ¬ (!xr.abs.proper m.abs) = true from by rw [hpr]; decide), if_neg (show ¬ m.abs.Kind = 1 from (by show ¬ m.Kind = 1; omega)), if_neg (show ¬ m.abs.Kind = 2 from (by show ¬ m.Kind = 2; omega)), if_neg (show ¬ m.abs.Kind = 3 from (by show ¬ m.Kind = 3; omega)), if_neg (show ¬ m.abs.Kind = 4 from (by show ¬ m.Kind = 4; omega)), if_pos (show m.abs.Kind = 5 ∨ m.abs.Kind = 7 from (by show m.Kind = 5 ∨ m.Kind = 7; omega))]; first | exact hx83 | exact hay83)), ⟨y83, rfl, (FRow.mono hy83 (.refl _) (.refl _)), (by rw [NodeP.step, if_neg (show ¬ (!xr.abs.proper m.abs) = true from by rw [hpr]; decide), if_neg (show ¬ m.abs.Kind = 1 from (by show ¬ m.Kind = 1; omega)), if_neg (show ¬ m.abs.Kind = 2 from (by show ¬ m.Kind = 2; omega)), if_neg (show ¬ m.abs.Kind = 3 from (by show ¬ m.Kind = 3; omega)), if_neg (show ¬ m.abs.Kind = 4 from (by show ¬ m.Kind = 4; omega)), if_pos (show m.abs.Kind = 5 ∨ m.abs.Kind = 7 from (by show m.Kind = 5 ∨ m.Kind = 7; omega))]; first | exact hx83 | exact hay83)⟩⟩ (.inl rfl)
              · have hb78 := hc78
                try simp only [Bool.or_eq_true, Bool.and_eq_true, Bool.or_eq_false_iff, Bool.and_eq_false_iff, decide_eq_true_eq, decide_eq_false_iff_not, Bool.not_eq_true', Bool.not_eq_false', Int.natCast_inj, Int.ofNat_lt, Int.ofNat_le] at hc78
                refine EW_skip ?_
                refine EQ_block_normal ?_
                refine EQ_then (EQ_wp ?_)
                refine EW_seq ?_
                -- region 18  raft.go:294
                refine EW_region ?_
                refine EL_s rfl rfl rfl (os_move rfl) ?_
                refine EL_s rfl rfl rfl (os_load_agg (cs := [_, _, _, _, _, _, _, _, _, _]) rfl agg41 (cells_own own_head rfl)) ?_
                refine EL_x rfl rfl (ox_callN (vs := [(.pointer (some ⟨br, 0, none⟩)), (.agg (m.cells).toArray)]) body72 rfl (pl_1_5 _ _ _ _ _ _ _) (n_appended (NodeAt.intro xr hora horb horc hord) hm (by exact hp0) (by omega) (by omega) (by omega) (by omega) (by omega) (by omega))) ?_
                rintro I86 L86 v86 hI86 ⟨Ss86, rfl, ⟨x86, S86a, S86b, S86c, S86d, hx86, rfl, ho86a, ho86b, ho86c, ho86d⟩, ⟨y86, rfl, hy86, hay86⟩⟩
                refine EL_perm (nm_5 _ _ _ _ _ _) ?_
                refine EL_s rfl rfl rfl (os_assign rfl) ?_
                refine EL_nil ?_
                refine EQ_then (EQ_wp ?_)
                refine EW_ret ?_
                exact pn_ret1 [_, _, _, _, _] Try.results18 (rv_tmp rfl) hI86 (Incl.cons (Incl.cons (Incl.cons (Incl.cons (Incl.cons (Incl.skip (Incl.refl _) _) _) _) _) _) _) ⟨(NodeAt.to x86 ho86a ho86b ho86c ho86d (by exfalso; omega)), ⟨y86, rfl, (FRow.mono hy86 (.refl _) (.refl _)), (by exfalso; omega)⟩⟩ (.inl rfl)
            · have hb78 := hc78
              try simp only [Bool.or_eq_true, Bool.and_eq_true, Bool.or_eq_false_iff, Bool.and_eq_false_iff, decide_eq_true_eq, decide_eq_false_iff_not, Bool.not_eq_true', Bool.not_eq_false', Int.natCast_inj, Int.ofNat_lt, Int.ofNat_le] at hc78
              -- region 16  raft.go:291
              refine EW_region ?_
              refine EL_s rfl rfl rfl (os_eql rfl rfl) ?_
              refine EL_s rfl rfl rfl (os_assign rfl) ?_
              refine EL_nil ?_
              refine EQ_then (EQ_wp ?_)
              refine EW_cond rfl (fun hc78 => ?_) (fun hc78 => ?_)
              · have hb78 := hc78
                try simp only [Bool.or_eq_true, Bool.and_eq_true, Bool.or_eq_false_iff, Bool.and_eq_false_iff, decide_eq_true_eq, decide_eq_false_iff_not, Bool.not_eq_true', Bool.not_eq_false', Int.natCast_inj, Int.ofNat_lt, Int.ofNat_le] at hc78
                refine EW_seq ?_
                -- region 17  raft.go:292
                refine EW_region ?_
                refine EL_s rfl rfl rfl (os_move rfl) ?_
                refine EL_s rfl rfl rfl (os_load_agg (cs := [_, _, _, _, _, _, _, _, _, _]) rfl agg41 (cells_own own_head rfl)) ?_
                refine EL_x rfl rfl (ox_callN (vs := [(.pointer (some ⟨br, 0, none⟩)), (.agg (m.cells).toArray)]) body71 rfl (pl_1_5 _ _ _ _ _ _ _) (n_led (NodeAt.intro xr hora horb horc hord) hm (by exact hp0) (by omega) (by omega) (by omega) (by omega))) ?_
                rintro I83 L83 v83 hI83 ⟨Ss83, rfl, ⟨x83, S83a, S83b, S83c, S83d, hx83, rfl, ho83a, ho83b, ho83c, ho83d⟩, ⟨y83, rfl, hy83, hay83⟩⟩
                refine EL_perm (nm_5 _ _ _ _ _ _) ?_
                refine EL_s rfl rfl rfl (os_assign rfl) ?_
                refine EL_nil ?_
                refine EQ_then (EQ_wp ?_)
                refine EW_ret ?_
                refine EQ_block_ret (EQ_then_ret (?_))
                exact pn_ret1 [_, _, _, _, _] Try.results18 (rv_tmp rfl) hI83 (Incl.cons (Incl.cons (Incl.cons (Incl.cons (Incl.cons (Incl.skip (Incl.refl _) _) _) _) _) _) _) ⟨(NodeAt.to x83 ho83a ho83b ho83c ho83d (by rw [NodeP.step, if_neg (show ¬ (!xr.abs.proper m.abs) = true from by rw [hpr]; decide), if_neg (show ¬ m.abs.Kind = 1 from (by show ¬ m.Kind = 1; omega)), if_neg (show ¬ m.abs.Kind = 2 from (by show ¬ m.Kind = 2; omega)), if_neg (show ¬ m.abs.Kind = 3 from (by show ¬ m.Kind = 3; omega)), if_neg (show ¬ m.abs.Kind = 4 from (by show ¬ m.Kind = 4; omega)), if_pos (show m.abs.Kind = 5 ∨ m.abs.Kind = 7 from (by show m.Kind = 5 ∨ m.Kind = 7; omega))]; first | exact hx83 | exact hay83)), ⟨y83, rfl, (FRow.mono hy83 (.refl _) (.refl _)), (by rw [NodeP.step, if_neg (show ¬ (!xr.abs.proper m.abs) = true from by rw [hpr]; decide), if_neg (show ¬ m.abs.Kind = 1 from (by show ¬ m.Kind = 1; omega)), if_neg (show ¬ m.abs.Kind = 2 from (by show ¬ m.Kind = 2; omega)), if_neg (show ¬ m.abs.Kind = 3 from (by show ¬ m.Kind = 3; omega)), if_neg (show ¬ m.abs.Kind = 4 from (by show ¬ m.Kind = 4; omega)), if_pos (show m.abs.Kind = 5 ∨ m.abs.Kind = 7 from (by show m.Kind = 5 ∨ m.Kind = 7; omega))]; first | exact hx83 | exact hay83)⟩⟩ (.inl rfl)
              · have hb78 := hc78
                try simp only [Bool.or_eq_true, Bool.and_eq_true, Bool.or_eq_false_iff, Bool.and_eq_false_iff, decide_eq_true_eq, decide_eq_false_iff_not, Bool.not_eq_true', Bool.not_eq_false', Int.natCast_inj, Int.ofNat_lt, Int.ofNat_le] at hc78
                refine EW_skip ?_
                refine EQ_block_normal ?_
                refine EQ_then (EQ_wp ?_)
                refine EW_seq ?_
                -- region 18  raft.go:294
                refine EW_region ?_
                refine EL_s rfl rfl rfl (os_move rfl) ?_
                refine EL_s rfl rfl rfl (os_load_agg (cs := [_, _, _, _, _, _, _, _, _, _]) rfl agg41 (cells_own own_head rfl)) ?_
                refine EL_x rfl rfl (ox_callN (vs := [(.pointer (some ⟨br, 0, none⟩)), (.agg (m.cells).toArray)]) body72 rfl (pl_1_5 _ _ _ _ _ _ _) (n_appended (NodeAt.intro xr hora horb horc hord) hm (by exact hp0) (by omega) (by omega) (by omega) (by omega) (by omega) (by omega))) ?_
                rintro I86 L86 v86 hI86 ⟨Ss86, rfl, ⟨x86, S86a, S86b, S86c, S86d, hx86, rfl, ho86a, ho86b, ho86c, ho86d⟩, ⟨y86, rfl, hy86, hay86⟩⟩
                refine EL_perm (nm_5 _ _ _ _ _ _) ?_
                refine EL_s rfl rfl rfl (os_assign rfl) ?_
                refine EL_nil ?_
                refine EQ_then (EQ_wp ?_)
                refine EW_ret ?_
                exact pn_ret1 [_, _, _, _, _] Try.results18 (rv_tmp rfl) hI86 (Incl.cons (Incl.cons (Incl.cons (Incl.cons (Incl.cons (Incl.skip (Incl.refl _) _) _) _) _) _) _) ⟨(NodeAt.to x86 ho86a ho86b ho86c ho86d (by rw [NodeP.step, if_neg (show ¬ (!xr.abs.proper m.abs) = true from by rw [hpr]; decide), if_neg (show ¬ m.abs.Kind = 1 from (by show ¬ m.Kind = 1; omega)), if_neg (show ¬ m.abs.Kind = 2 from (by show ¬ m.Kind = 2; omega)), if_neg (show ¬ m.abs.Kind = 3 from (by show ¬ m.Kind = 3; omega)), if_neg (show ¬ m.abs.Kind = 4 from (by show ¬ m.Kind = 4; omega)), if_neg (show ¬ (m.abs.Kind = 5 ∨ m.abs.Kind = 7) from (by show ¬ (m.Kind = 5 ∨ m.Kind = 7); omega))]; first | exact hx86 | exact hay86)), ⟨y86, rfl, (FRow.mono hy86 (.refl _) (.refl _)), (by rw [NodeP.step, if_neg (show ¬ (!xr.abs.proper m.abs) = true from by rw [hpr]; decide), if_neg (show ¬ m.abs.Kind = 1 from (by show ¬ m.Kind = 1; omega)), if_neg (show ¬ m.abs.Kind = 2 from (by show ¬ m.Kind = 2; omega)), if_neg (show ¬ m.abs.Kind = 3 from (by show ¬ m.Kind = 3; omega)), if_neg (show ¬ m.abs.Kind = 4 from (by show ¬ m.Kind = 4; omega)), if_neg (show ¬ (m.abs.Kind = 5 ∨ m.abs.Kind = 7) from (by show ¬ (m.Kind = 5 ∨ m.Kind = 7); omega))]; first | exact hx86 | exact hay86)⟩⟩ (.inl rfl)


end Go.Proofs.Ytlhibbjnhdcffaa
