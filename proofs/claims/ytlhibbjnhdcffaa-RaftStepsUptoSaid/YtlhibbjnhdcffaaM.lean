/- Proved here: the part M of the proof that the law of this seat returns true for every input; no condition. -/
import Derived.Test.YtlhibbjnhdcffaaK
set_option maxRecDepth 20000
set_option linter.unusedVariables false
set_option linter.unusedSimpArgs false
namespace Go.Proofs.Ytlhibbjnhdcffaa
open Go Go.Gl

set_option maxHeartbeats 1000000 in
theorem n_led {I : Gh} {L : List Seg} {br : Nat} {r : NodeP} {Ssr : List Seg} (hr : NodeAt I br r Ssr) {m : Msg} (hm : Msg.Ok I m) (hp0 : NodeP.Few r) (hp1 : 0 ≤ m.abs.From ∧ m.abs.From < r.n) (hp2 : m.abs.Term ≤ 4611686018427387904) (hp3 : m.abs.Index ≤ 4611686018427387904) (hp4 : m.abs.Entries.length ≤ 1000000000) : PN Try.prog 71 #[.pointer (some ⟨br, 0, none⟩), .agg (m.cells).toArray] I L (Ssr) fun K Ss' v => NodeAt K br ((r.led m.abs).1) Ss' ∧ (∃ (y0 : Sl Msg), v = y0.v ∧ FRow rMsg K [] y0 ∧ y0.xs.map Msg.abs = (r.led m.abs).2) := by
  obtain ⟨xr, Sra, Srb, Src, Srd, rfl, rfl, hora, horb, horc, hord⟩ := hr
  refine PN.of (n := 58) Try.func71 rfl Try.ntmps71 rfl fun I0 L0 hI0 hL0 => ?_
  refine EW_perm (nm_5 _ _ _ _ _ _) ?_
  have hora := hora.mono hI0
  have horb := horb.mono hI0
  have horc := horc.mono hI0
  have hord := hord.mono hI0
  have hm := hm.mono hI0
  have hf0 := hp0
  obtain ⟨hfb, hfl, hft, hid0, hidn, hn5, hlim0, hlim1, hclk0, hclk1, hbt, htrm, hcmt⟩ := hf0
  simp only [Node.abs, List.length_map] at hfb hfl hft hid0 hidn hn5 hlim0 hlim1 hclk0 hclk1 hbt htrm hcmt
  have hltm := NodeP.lastTerm_le hp0
  have hlast : NodeP.last xr.abs = xr.Base + xr.Entries.xs.length := by simp [NodeP.last, Node.abs]
  simp only [Node.abs] at hp1
  simp only [Msg.abs, List.length_map] at hp1 hp2 hp3 hp4
  have hmt := hm.Term
  have hmf := hm.From
  refine EW_seq ?_
  -- region 0  raft.go:341
  refine EW_region ?_
  refine EL_a rfl rfl rfl (oa_box rfl) ?_
  intro b3
  refine EL_s rfl rfl rfl (os_assign rfl) ?_
  refine EL_nil ?_
  refine EQ_then (EQ_wp ?_)
  refine EW_seq ?_
  refine EW_seq ?_
  -- region 1 DRAWN  raft.go:342
  refine EW_drawC [] [⟨[], some 5, [3], .s, 0⟩, ⟨[0], some 6, [5], .s, 1⟩, ⟨[], some 7, [0], .s, 0⟩, ⟨[2], some 8, [7], .s, 4⟩, ⟨[3], some 9, [8], .s, 12⟩, ⟨[4], some 10, [9], .s, 28⟩, ⟨[5], some 11, [10], .s, 60⟩, ⟨[6], some 12, [11], .s, 124⟩, ⟨[1, 7], some 13, [6, 12], .s, 255⟩] [.s, .s, .s, .s, .s, .s, .s, .s, .s] [0, 1, 2, 3, 4, 5, 6, 7, 8] mixed (by kernel_rfl) (by kernel_rfl) (by kernel_rfl) rfl rfl ?_
  refine EP_s rfl rfl rfl rfl rfl (by exact (os_field rfl fl41_3)) ?_
  refine EP_s rfl rfl rfl rfl rfl (by exact (os_load_one rfl one22 (cells_own own_head rfl))) ?_
  refine EP_s rfl rfl rfl rfl rfl (by exact (os_move rfl)) ?_
  refine EP_s rfl rfl rfl rfl rfl (by exact (os_nilCheck rfl)) ?_
  refine EP_s rfl rfl rfl rfl rfl (by exact (os_field rfl fl47_0)) ?_
  refine EP_s rfl rfl rfl rfl rfl (by exact (os_field rfl fl36_0)) ?_
  refine EP_s rfl rfl rfl rfl rfl (by exact (os_field rfl fl33_0)) ?_
  refine EP_s rfl rfl rfl rfl rfl (by exact (os_load_one rfl one22 (cells_own (own_tail own_head) rfl))) ?_
  refine EP_s rfl rfl rfl rfl rfl (by exact (os_lss rfl rfl)) ?_
  refine EP_nil ?_
  refine EQ_then (EQ_wp ?_)
  refine EW_cond rfl (fun hc13 => ?_) (fun hc13 => ?_)
  · have hb13 := hc13
    try simp only [Bool.or_eq_true, Bool.and_eq_true, Bool.or_eq_false_iff, Bool.and_eq_false_iff, decide_eq_true_eq, decide_eq_false_iff_not, Bool.not_eq_true', Bool.not_eq_false', Int.natCast_inj, Int.ofNat_lt, Int.ofNat_le] at hc13
    refine EW_seq ?_
    -- region 2 DRAWN  raft.go:343
    refine EW_drawC [] [⟨[], some 14, [0], .s, 0⟩, ⟨[], some 15, [3], .s, 0⟩, ⟨[], some 16, [0], .s, 0⟩, ⟨[2], some 17, [16], .s, 4⟩, ⟨[3], some 18, [17], .s, 12⟩, ⟨[4], some 19, [18], .s, 28⟩, ⟨[5], some 20, [19], .s, 60⟩, ⟨[6], some 21, [20], .s, 124⟩, ⟨[7], some 22, [21], .s, 252⟩, ⟨[0, 1, 8], some 23, [14, 15, 22], .g, 511⟩, ⟨[9, 9, 0, 1, 2, 3, 4, 5, 6, 7, 8, 9], some 4, [23], .s, 1023⟩] [.s, .s, .s, .s, .s, .s, .s, .s, .s, .g, .s] [0, 1, 2, 3, 4, 5, 6, 7, 8, 9, 10] mixed (by kernel_rfl) (by kernel_rfl) (by kernel_rfl) rfl rfl ?_
    refine EP_s rfl rfl rfl rfl rfl (by exact (os_move rfl)) ?_
    refine EP_s rfl rfl rfl rfl rfl (by exact (os_load_agg (cs := [_, _, _, _, _, _, _, _, _, _]) rfl agg41 (cells_own own_head rfl))) ?_
    refine EP_s rfl rfl rfl rfl rfl (by exact (os_move rfl)) ?_
    refine EP_s rfl rfl rfl rfl rfl (by exact (os_nilCheck rfl)) ?_
    refine EP_s rfl rfl rfl rfl rfl (by exact (os_field rfl fl47_0)) ?_
    refine EP_s rfl rfl rfl rfl rfl (by exact (os_field rfl fl36_0)) ?_
    refine EP_s rfl rfl rfl rfl rfl (by exact (os_field rfl fl33_0)) ?_
    refine EP_s rfl rfl rfl rfl rfl (by exact (os_load_one rfl one22 (cells_own (own_tail own_head) rfl))) ?_
    refine EP_s rfl rfl rfl rfl rfl (by exact (os_struct (cs := [_, _, _, _, _, _, _, _, _, _]) [(0, _), (3, _)] pl41 z41 rfl rfl)) ?_
    have hr_a23_2 : Msg.Ok I0 (Msg.mk 6 0 0 xr.Term 0 0 0 (Sl.mk (Hd.mk none 0 0) []) false (Sl.mk (Hd.mk none 0 0) [])) := ⟨(by first | omega | (dsimp only; omega)), (by first | omega | (dsimp only; omega)), (by first | omega | (dsimp only; omega)), (by first | omega | (dsimp only; omega)), (by first | omega | (dsimp only; omega)), (by first | omega | (dsimp only; omega)), (by first | omega | (dsimp only; omega)), (FRow.none _ _ _), (FRow.none _ _ _)⟩
    refine EP_g rfl rfl rfl rfl rfl (by exact (og_call (vs := [(.pointer (some ⟨br, 0, none⟩)), (.agg (m.cells).toArray), .agg ((Msg.mk 6 0 0 xr.Term 0 0 0 (Sl.mk (Hd.mk none 0 0) []) false (Sl.mk (Hd.mk none 0 0) [])).cells).toArray]) body67 rfl (n_answer (NodeAt.intro xr hora horb horc hord) (incl_mid [_] [_, _, _, _, _] _) hm hr_a23_2 (by first | (simp only [Node.abs]; omega) | (have h1 := hfw.id0; have h2 := hfw.idn; have h3 := hfw.n5; simp only [Node.abs] at h1 h2 h3 ⊢; omega))))) ?_
    intro I23 v23 hI23 hv23
    obtain ⟨y23, rfl, hy23, hay23⟩ := hv23
    refine EP_s rfl rfl rfl rfl rfl (by exact (os_assign rfl)) ?_
    refine EP_nil ?_
    refine EQ_then (EQ_wp ?_)
    refine EW_ret ?_
    refine EQ_then_ret (?_)
    exact pn_ret1 [_, _, _, _, _] Try.results71 (rv_tmp rfl) hI23 (Incl.skip (Incl.cons (Incl.cons (Incl.cons (Incl.cons (Incl.cons (Incl.refl _) _) _) _) _) _) _) ⟨(NodeAt.to xr (hora.mono hI23) (horb.mono hI23) (horc.mono hI23) (hord.mono hI23) (by rw [NodeP.led, if_pos (show m.abs.Term < xr.abs.Term from hc13)]; first | done | rfl | exact hay23)), ⟨y23, rfl, (FRow.mono hy23 (.refl _) (.refl _)), (by rw [NodeP.led, if_pos (show m.abs.Term < xr.abs.Term from hc13)]; first | done | rfl | exact hay23)⟩⟩ (.inl rfl)
  · have hb13 := hc13
    try simp only [Bool.or_eq_true, Bool.and_eq_true, Bool.or_eq_false_iff, Bool.and_eq_false_iff, decide_eq_true_eq, decide_eq_false_iff_not, Bool.not_eq_true', Bool.not_eq_false', Int.natCast_inj, Int.ofNat_lt, Int.ofNat_le] at hc13
    refine EW_skip ?_
    refine EQ_then (EQ_wp ?_)
    refine EW_seq ?_
    refine EW_seq ?_
    -- region 3 DRAWN  raft.go:345
    refine EW_drawC [] [⟨[], some 24, [3], .s, 0⟩, ⟨[0], some 25, [24], .s, 1⟩, ⟨[], some 26, [0], .s, 0⟩, ⟨[2], some 27, [26], .s, 4⟩, ⟨[3], some 28, [27], .s, 12⟩, ⟨[4], some 29, [28], .s, 28⟩, ⟨[5], some 30, [29], .s, 60⟩, ⟨[6], some 31, [30], .s, 124⟩, ⟨[1, 7], some 32, [25, 31], .s, 255⟩, ⟨[8], some 33, [32], .s, 511⟩, ⟨[9], some 34, [0, 33], .s, 1023⟩, ⟨[10, 9], some 35, [34, 33], .s, 2047⟩, ⟨[11, 9], some 36, [35, 33], .s, 4095⟩, ⟨[12, 9], some 37, [36, 33], .s, 8191⟩, ⟨[13, 9], some 38, [37, 33], .s, 16383⟩, ⟨[9, 14], some 39, [33, 38], .s, 32767⟩] [.s, .s, .s, .s, .s, .s, .s, .s, .s, .s, .s, .s, .s, .s, .s, .s] [0, 1, 2, 3, 4, 5, 6, 7, 8, 9, 10, 11, 12, 13, 14, 15] mixed (by kernel_rfl) (by kernel_rfl) (by kernel_rfl) rfl rfl ?_
    refine EP_s rfl rfl rfl rfl rfl (by exact (os_field rfl fl41_3)) ?_
    refine EP_s rfl rfl rfl rfl rfl (by exact (os_load_one rfl one22 (cells_own own_head rfl))) ?_
    refine EP_s rfl rfl rfl rfl rfl (by exact (os_move rfl)) ?_
    refine EP_s rfl rfl rfl rfl rfl (by exact (os_nilCheck rfl)) ?_
    refine EP_s rfl rfl rfl rfl rfl (by exact (os_field rfl fl47_0)) ?_
    refine EP_s rfl rfl rfl rfl rfl (by exact (os_field rfl fl36_0)) ?_
    refine EP_s rfl rfl rfl rfl rfl (by exact (os_field rfl fl33_0)) ?_
    refine EP_s rfl rfl rfl rfl rfl (by exact (os_load_one rfl one22 (cells_own (own_tail own_head) rfl))) ?_
    refine EP_s rfl rfl rfl rfl rfl (by exact (os_eql rfl rfl)) ?_
    refine EP_s rfl rfl rfl rfl rfl (by exact (os_move rfl)) ?_
    refine EP_joint 6 39 (.bool ((decide (((m.Term : Nat) : Int) = ((xr.Term : Nat) : Int))) && (decide (xr.role = 3)))) [10, 11, 12, 13, 14, 15] rfl rfl rfl ?_ ?_
    · skip
      refine ES_case (decide (((m.Term : Nat) : Int) = ((xr.Term : Nat) : Int))) (fun hg33 => ?_) (fun hg33 => ?_)
      · have hg33_ := hg33
        try simp only [Bool.or_eq_true, Bool.and_eq_true, Bool.or_eq_false_iff, Bool.and_eq_false_iff, decide_eq_true_eq, decide_eq_false_iff_not, Bool.not_eq_true', Bool.not_eq_false', Int.natCast_inj, Int.ofNat_lt, Int.ofNat_le] at hg33_
        refine ES_yes (j := 9) (b := true) rfl rfl rfl hg33 rfl rfl (os_move rfl) ?_
        refine ES_yes (j := 9) (b := true) rfl rfl rfl hg33 rfl rfl (os_nilCheck rfl) ?_
        refine ES_yes (j := 9) (b := true) rfl rfl rfl hg33 rfl rfl (os_field rfl fl47_4) ?_
        refine ES_yes (j := 9) (b := true) rfl rfl rfl hg33 rfl rfl (os_load_one rfl one3 (cells_own (own_tail own_head) rfl)) ?_
        refine ES_yes (j := 9) (b := true) rfl rfl rfl hg33 rfl rfl (os_eql rfl rfl) ?_
        refine ES_s rfl rfl rfl (os_pick_t' rfl hg33 rfl) ?_
        exact ES_fin 6 rfl rfl (by rw [hg33]; rfl)
      · have hg33_ := hg33
        try simp only [Bool.or_eq_true, Bool.and_eq_true, Bool.or_eq_false_iff, Bool.and_eq_false_iff, decide_eq_true_eq, decide_eq_false_iff_not, Bool.not_eq_true', Bool.not_eq_false', Int.natCast_inj, Int.ofNat_lt, Int.ofNat_le] at hg33_
        refine ES_no rfl hg33 rfl rfl rfl rfl ?_
        refine ES_no rfl hg33 rfl rfl rfl rfl ?_
        refine ES_no rfl hg33 rfl rfl rfl rfl ?_
        refine ES_no rfl hg33 rfl rfl rfl rfl ?_
        refine ES_no rfl hg33 rfl rfl rfl rfl ?_
        refine ES_s rfl rfl rfl (os_pick_f' rfl hg33 rfl) ?_
        exact ES_fin 6 rfl rfl (by rw [hg33]; rfl)
    refine EP_nil ?_
    refine EQ_then (EQ_wp ?_)
    refine EW_cond rfl (fun hc39 => ?_) (fun hc39 => ?_)
    · have hb39 := hc39
      try simp only [Bool.or_eq_true, Bool.and_eq_true, Bool.or_eq_false_iff, Bool.and_eq_false_iff, decide_eq_true_eq, decide_eq_false_iff_not, Bool.not_eq_true', Bool.not_eq_false', Int.natCast_inj, Int.ofNat_lt, Int.ofNat_le] at hc39
      refine EW_seq ?_
      -- region 4  raft.go:346
      refine EW_region ?_
      refine EL_s rfl rfl rfl (os_assign rfl) ?_
      refine EL_nil ?_
      refine EQ_then (EQ_wp ?_)
      refine EW_ret ?_
      refine EQ_then_ret (?_)
      exact pn_ret1 [_, _, _, _, _] Try.results71 (rv_tmp rfl) (.refl _) (Incl.skip (Incl.cons (Incl.cons (Incl.cons (Incl.cons (Incl.cons (Incl.refl _) _) _) _) _) _) _) ⟨(NodeAt.to xr hora horb horc hord (by rw [NodeP.led, if_neg (show ¬ m.abs.Term < xr.abs.Term from (by show ¬ m.Term < xr.Term; omega)), if_pos (show m.abs.Term = xr.abs.Term ∧ xr.abs.role = 3 from hc39)]; first | done | rfl)), ⟨(Sl.mk (Hd.mk none 0 0) []), rfl, (FRow.none _ _ _), (by rw [NodeP.led, if_neg (show ¬ m.abs.Term < xr.abs.Term from (by show ¬ m.Term < xr.Term; omega)), if_pos (show m.abs.Term = xr.abs.Term ∧ xr.abs.role = 3 from hc39)]; first | done | rfl)⟩⟩ (.inl rfl)
    · have hb39 := hc39
      try simp only [Bool.or_eq_true, Bool.and_eq_true, Bool.or_eq_false_iff, Bool.and_eq_false_iff, decide_eq_true_eq, decide_eq_false_iff_not, Bool.not_eq_true', Bool.not_eq_false', Int.natCast_inj, Int.ofNat_lt, Int.ofNat_le] at hc39
      refine EW_skip ?_
      refine EQ_then (EQ_wp ?_)
      refine EW_seq ?_
      -- region 5  raft.go:348
      refine EW_region ?_
      refine EL_s rfl rfl rfl (os_move rfl) ?_
      refine EL_s rfl rfl rfl (os_field rfl fl41_3) ?_
      refine EL_s rfl rfl rfl (os_load_one rfl one22 (cells_own own_head rfl)) ?_
      refine EL_s rfl rfl rfl (os_field rfl fl41_1) ?_
      refine EL_s rfl rfl rfl (os_load_one rfl one3 (cells_own own_head rfl)) ?_
      refine EL_x rfl rfl (ox_callN (vs := [(.pointer (some ⟨br, 0, none⟩)), (.int .u64 ((m.Term : Nat) : Int)), (.int .i64 m.From)]) body109 rfl (pl_1_5 _ _ _ _ _ _ _) (n_follow (NodeAt.intro xr hora horb horc hord) m.Term m.From)) ?_
      rintro I45 L45 v45 hI45 ⟨Ss45, rfl, ⟨x45, S45a, S45b, S45c, S45d, hx45, rfl, ho45a, ho45b, ho45c, ho45d⟩, rfl⟩
      refine EL_perm (nm_5 _ _ _ _ _ _) ?_
      refine EL_nil ?_
      refine EQ_then (EQ_wp ?_)
      refine EW_seq ?_
      -- region 6  raft.go:349
      refine EW_region ?_
      refine EL_s rfl rfl rfl (os_move rfl) ?_
      refine EL_s rfl rfl rfl (os_nilCheck rfl) ?_
      refine EL_s rfl rfl rfl (os_field rfl fl47_7) ?_
      refine EL_u rfl rfl (ox_store rfl rfl sz3 rfl (by rfl) (.head .head)) ?_
      refine EL_nil ?_
      refine EQ_then (EQ_wp ?_)
      refine EW_seq ?_
      refine EW_seq ?_
      -- region 7  raft.go:350
      refine EW_region ?_
      have hfo : Node.abs (Node.mk x45.Term x45.Vote x45.Base x45.BaseTerm x45.Entries x45.id x45.n x45.limit x45.role x45.lead x45.commit 0 x45.votes x45.match_ x45.next) = { xr.abs.follow m.abs.Term m.abs.From with clock := 0 } := congrArg (fun z : NodeP => { z with clock := 0 }) hx45
      have hfw : NodeP.Few (Node.abs (Node.mk x45.Term x45.Vote x45.Base x45.BaseTerm x45.Entries x45.id x45.n x45.limit x45.role x45.lead x45.commit 0 x45.votes x45.match_ x45.next)) := by rw [hfo]; have hz := hp0.follow (t := m.abs.Term) hp2 m.abs.From; exact ⟨hz.base, hz.len, hz.term, hz.id0, hz.idn, hz.n5, hz.lim0, hz.lim1, Int.le_refl 0, (by show (0 : Int) ≤ 2000; omega), hz.bt, hz.trm, hz.cmt⟩
      have hn45 : x45.n = xr.n := by have hz := congrArg NodeP.n hx45; rw [NodeP.follow_n] at hz; exact hz
      refine EL_s rfl rfl rfl (os_field rfl fl41_0) ?_
      refine EL_s rfl rfl rfl (os_load_one rfl one3 (cells_own (own_tail (own_tail (own_tail (own_tail (own_tail own_head))))) rfl)) ?_
      refine EL_s rfl rfl rfl (os_eql rfl rfl) ?_
      refine EL_nil ?_
      refine EQ_then (EQ_wp ?_)
      refine EW_cond rfl (fun hc51 => ?_) (fun hc51 => ?_)
      · have hb51 := hc51
        try simp only [Bool.or_eq_true, Bool.and_eq_true, Bool.or_eq_false_iff, Bool.and_eq_false_iff, decide_eq_true_eq, decide_eq_false_iff_not, Bool.not_eq_true', Bool.not_eq_false', Int.natCast_inj, Int.ofNat_lt, Int.ofNat_le] at hc51
        refine EW_seq ?_
        -- region 8  raft.go:351
        refine EW_region ?_
        refine EL_s rfl rfl rfl (os_move rfl) ?_
        refine EL_s rfl rfl rfl (os_load_agg (cs := [_, _, _, _, _, _, _, _, _, _]) rfl agg41 (cells_own (own_tail (own_tail (own_tail (own_tail (own_tail own_head))))) rfl)) ?_
        refine EL_x rfl rfl (ox_callN (vs := [(.pointer (some ⟨br, 0, none⟩)), (.agg (m.cells).toArray)]) body112 rfl (pl_0_5 _ _ _ _ _ _) (n_snap (NodeAt.intro (Node.mk x45.Term x45.Vote x45.Base x45.BaseTerm x45.Entries x45.id x45.n x45.limit x45.role x45.lead x45.commit 0 x45.votes x45.match_ x45.next) ho45a ho45b ho45c ho45d) (hm.mono hI45) (by exact hfw) (by simp only [Node.abs, Msg.abs]; omega) (by exact hp2) (by exact hp3))) ?_
        rintro I54 L54 v54 hI54 ⟨Ss54, rfl, ⟨x54, S54a, S54b, S54c, S54d, hx54, rfl, ho54a, ho54b, ho54c, ho54d⟩, ⟨y54, rfl, hy54, hay54⟩⟩
        refine EL_perm (nm_5 _ _ _ _ _ _) ?_
        refine EL_s rfl rfl rfl (os_assign rfl) ?_
        refine EL_nil ?_
        refine EQ_then (EQ_wp ?_)
        refine EW_ret ?_
        refine EQ_then_ret (?_)
        exact pn_ret1 [_, _, _, _, _] Try.results71 (rv_tmp rfl) (hI45.trans hI54) (Incl.cons (Incl.cons (Incl.cons (Incl.cons (Incl.cons (Incl.skip (Incl.refl _) _) _) _) _) _) _) ⟨(NodeAt.to x54 ho54a ho54b ho54c ho54d (by rw [NodeP.led, if_neg (show ¬ m.abs.Term < xr.abs.Term from (by show ¬ m.Term < xr.Term; omega)), if_neg (show ¬ (m.abs.Term = xr.abs.Term ∧ xr.abs.role = 3) from (by show ¬ (m.Term = xr.Term ∧ xr.role = 3); omega)), if_pos (show m.abs.Kind = 7 from hc51), ← hfo]; first | exact hx54 | exact hay54)), ⟨y54, rfl, (FRow.mono hy54 (.refl _) (.refl _)), (by rw [NodeP.led, if_neg (show ¬ m.abs.Term < xr.abs.Term from (by show ¬ m.Term < xr.Term; omega)), if_neg (show ¬ (m.abs.Term = xr.abs.Term ∧ xr.abs.role = 3) from (by show ¬ (m.Term = xr.Term ∧ xr.role = 3); omega)), if_pos (show m.abs.Kind = 7 from hc51), ← hfo]; first | exact hx54 | exact hay54)⟩⟩ (.inl rfl)
      · have hb51 := hc51
        try simp only [Bool.or_eq_true, Bool.and_eq_true, Bool.or_eq_false_iff, Bool.and_eq_false_iff, decide_eq_true_eq, decide_eq_false_iff_not, Bool.not_eq_true', Bool.not_eq_false', Int.natCast_inj, Int.ofNat_lt, Int.ofNat_le] at hc51
        refine EW_skip ?_
        refine EQ_then (EQ_wp ?_)
        refine EW_seq ?_
        -- region 9  raft.go:353
        refine EW_region ?_
        refine EL_s rfl rfl rfl (os_move rfl) ?_
        refine EL_s rfl rfl rfl (os_load_agg (cs := [_, _, _, _, _, _, _, _, _, _]) rfl agg41 (cells_own (own_tail (own_tail (own_tail (own_tail (own_tail own_head))))) rfl)) ?_
        refine EL_x rfl rfl (ox_callN (vs := [(.pointer (some ⟨br, 0, none⟩)), (.agg (m.cells).toArray)]) body113 rfl (pl_0_5 _ _ _ _ _ _) (n_append (NodeAt.intro (Node.mk x45.Term x45.Vote x45.Base x45.BaseTerm x45.Entries x45.id x45.n x45.limit x45.role x45.lead x45.commit 0 x45.votes x45.match_ x45.next) ho45a ho45b ho45c ho45d) (hm.mono hI45) (by exact hfw) (by simp only [Node.abs, Msg.abs]; omega) (by exact hp2) (by exact hp3) (by simp only [Msg.abs, List.length_map]; omega))) ?_
        rintro I57 L57 v57 hI57 ⟨Ss57, rfl, ⟨x57, S57a, S57b, S57c, S57d, hx57, rfl, ho57a, ho57b, ho57c, ho57d⟩, ⟨y57, rfl, hy57, hay57⟩⟩
        refine EL_perm (nm_5 _ _ _ _ _ _) ?_
        refine EL_s rfl rfl rfl (os_assign rfl) ?_
        refine EL_nil ?_
        refine EQ_then (EQ_wp ?_)
        refine EW_ret ?_
        exact pn_ret1 [_, _, _, _, _] Try.results71 (rv_tmp rfl) (hI45.trans hI57) (Incl.cons (Incl.cons (Incl.cons (Incl.cons (Incl.cons (Incl.skip (Incl.refl _) _) _) _) _) _) _) ⟨(NodeAt.to x57 ho57a ho57b ho57c ho57d (by rw [NodeP.led, if_neg (show ¬ m.abs.Term < xr.abs.Term from (by show ¬ m.Term < xr.Term; omega)), if_neg (show ¬ (m.abs.Term = xr.abs.Term ∧ xr.abs.role = 3) from (by show ¬ (m.Term = xr.Term ∧ xr.role = 3); omega)), if_neg (show ¬ m.abs.Kind = 7 from hc51), ← hfo]; first | exact hx57 | exact hay57)), ⟨y57, rfl, (FRow.mono hy57 (.refl _) (.refl _)), (by rw [NodeP.led, if_neg (show ¬ m.abs.Term < xr.abs.Term from (by show ¬ m.Term < xr.Term; omega)), if_neg (show ¬ (m.abs.Term = xr.abs.Term ∧ xr.abs.role = 3) from (by show ¬ (m.Term = xr.Term ∧ xr.role = 3); omega)), if_neg (show ¬ m.abs.Kind = 7 from hc51), ← hfo]; first | exact hx57 | exact hay57)⟩⟩ (.inl rfl)


end Go.Proofs.Ytlhibbjnhdcffaa
