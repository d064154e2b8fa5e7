/- Proved here: the part H of the proof that the law of this seat returns true for every input; no condition. -/
import Derived.Test.YtlhibbjnhdcffaaG
set_option maxRecDepth 20000
set_option linter.unusedVariables false
set_option linter.unusedSimpArgs false
namespace Go.Proofs.Ytlhibbjnhdcffaa
open Go Go.Gl

set_option maxHeartbeats 1000000 in
theorem n_appended {I : Gh} {L : List Seg} {br : Nat} {r : NodeP} {Ssr : List Seg} (hr : NodeAt I br r Ssr) {m : Msg} (hm : Msg.Ok I m) (hp0 : NodeP.Few r) (hp1 : r.role = 3 → (r.match_.length : Int) = r.n) (hp2 : r.role = 3 → (r.next.length : Int) = r.n) (hp3 : 0 ≤ m.abs.From ∧ m.abs.From < r.n) (hp4 : m.abs.Term ≤ 4611686018427387904) (hp5 : m.abs.Index ≤ 4611686018427387904) (hp6 : ∀ x ∈ r.match_, x ≤ 9100000000000000000) : PN Try.prog 72 #[.pointer (some ⟨br, 0, none⟩), .agg (m.cells).toArray] I L (Ssr) fun K Ss' v => NodeAt K br ((r.appended m.abs).1) Ss' ∧ (∃ (y0 : Sl Msg), v = y0.v ∧ FRow rMsg K [] y0 ∧ y0.xs.map Msg.abs = (r.appended m.abs).2) := by
  obtain ⟨xr, Sra, Srb, Src, Srd, rfl, rfl, hora, horb, horc, hord⟩ := hr
  refine PN.of (n := 106) Try.func72 rfl Try.ntmps72 rfl fun I0 L0 hI0 hL0 => ?_
  refine EW_perm (nm_5 _ _ _ _ _ _) ?_
  have hora := hora.mono hI0
  have horb := horb.mono hI0
  have horc := horc.mono hI0
  have hord := hord.mono hI0
  have hm := hm.mono hI0
  have hf0 := hp0
  obtain ⟨hfb, hfl, hft, hid0, hidn, hn5, hlim0, hlim1, hclk0, hclk1, hbt, htrm, hcmt⟩ := hf0
  simp only [Node.abs, List.length_map] at hfb hfl hft hid0 hidn hn5 hlim0 hlim1 hclk0 hclk1 hbt htrm hcmt
  have hltm := NodeP.lastTerm_le hp0
  have hlast : NodeP.last xr.abs = xr.Base + xr.Entries.xs.length := by simp [NodeP.last, Node.abs]
  simp only [Node.abs] at hp1 hp2 hp3
  simp only [Msg.abs] at hp3 hp4 hp5
  have hmt := hm.Term
  have hmf := hm.From
  refine EW_seq ?_
  -- region 0  raft.go:401
  refine EW_region ?_
  refine EL_a rfl rfl rfl (oa_box rfl) ?_
  intro b3
  refine EL_s rfl rfl rfl (os_assign rfl) ?_
  refine EL_nil ?_
  refine EQ_then (EQ_wp ?_)
  refine EW_seq ?_
  refine EW_seq ?_
  -- region 1 DRAWN  raft.go:402
  refine EW_drawC [] [⟨[], some 6, [3], .s, 0⟩, ⟨[0], some 7, [6], .s, 1⟩, ⟨[], some 8, [0], .s, 0⟩, ⟨[2], some 9, [8], .s, 4⟩, ⟨[3], some 10, [9], .s, 12⟩, ⟨[4], some 11, [10], .s, 28⟩, ⟨[5], some 12, [11], .s, 60⟩, ⟨[6], some 13, [12], .s, 124⟩, ⟨[1, 7], some 14, [7, 13], .s, 255⟩] [.s, .s, .s, .s, .s, .s, .s, .s, .s] [0, 1, 2, 3, 4, 5, 6, 7, 8] mixed (by kernel_rfl) (by kernel_rfl) (by kernel_rfl) rfl rfl ?_
  refine EP_s rfl rfl rfl rfl rfl (by exact (os_field rfl fl41_3)) ?_
  refine EP_s rfl rfl rfl rfl rfl (by exact (os_load_one rfl one22 (cells_own own_head rfl))) ?_
  refine EP_s rfl rfl rfl rfl rfl (by exact (os_move rfl)) ?_
  refine EP_s rfl rfl rfl rfl rfl (by exact (os_nilCheck rfl)) ?_
  refine EP_s rfl rfl rfl rfl rfl (by exact (os_field rfl fl47_0)) ?_
  refine EP_s rfl rfl rfl rfl rfl (by exact (os_field rfl fl36_0)) ?_
  refine EP_s rfl rfl rfl rfl rfl (by exact (os_field rfl fl33_0)) ?_
  refine EP_s rfl rfl rfl rfl rfl (by exact (os_load_one rfl one22 (cells_own (own_tail own_head) rfl))) ?_
  refine EP_s rfl rfl rfl rfl rfl (by exact (os_gtr rfl rfl)) ?_
  refine EP_nil ?_
  refine EQ_then (EQ_wp ?_)
  refine EW_cond rfl (fun hc14 => ?_) (fun hc14 => ?_)
  · have hb14 := hc14
    try simp only [Bool.or_eq_true, Bool.and_eq_true, Bool.or_eq_false_iff, Bool.and_eq_false_iff, decide_eq_true_eq, decide_eq_false_iff_not, Bool.not_eq_true', Bool.not_eq_false', Int.natCast_inj, Int.ofNat_lt, Int.ofNat_le] at hc14
    refine EW_seq ?_
    -- region 2  raft.go:403
    refine EW_region ?_
    refine EL_s rfl rfl rfl (os_move rfl) ?_
    refine EL_s rfl rfl rfl (os_field rfl fl41_3) ?_
    refine EL_s rfl rfl rfl (os_load_one rfl one22 (cells_own own_head rfl)) ?_
    refine EL_x rfl rfl (ox_callN (vs := [(.pointer (some ⟨br, 0, none⟩)), (.int .u64 ((m.Term : Nat) : Int)), (.int .i64 (-1))]) body109 rfl (pl_1_5 _ _ _ _ _ _ _) (n_follow (NodeAt.intro xr hora horb horc hord) m.Term (-1))) ?_
    rintro I18 L18 v18 hI18 ⟨Ss18, rfl, ⟨x18, S18a, S18b, S18c, S18d, hx18, rfl, ho18a, ho18b, ho18c, ho18d⟩, rfl⟩
    refine EL_perm (nm_5 _ _ _ _ _ _) ?_
    refine EL_nil ?_
    refine EQ_then (EQ_wp ?_)
    refine EW_seq ?_
    -- region 3  raft.go:404
    refine EW_region ?_
    refine EL_s rfl rfl rfl (os_assign rfl) ?_
    refine EL_nil ?_
    refine EQ_then (EQ_wp ?_)
    refine EW_ret ?_
    refine EQ_then_ret (?_)
    exact pn_ret1 [_, _, _, _, _] Try.results72 (rv_tmp rfl) hI18 (Incl.cons (Incl.cons (Incl.cons (Incl.cons (Incl.cons (Incl.skip (Incl.refl _) _) _) _) _) _) _) ⟨(NodeAt.to x18 ho18a ho18b ho18c ho18d (by rw [NodeP.appended, if_pos (show xr.abs.Term < m.abs.Term from hc14)]; first | done | rfl | exact hx18)), ⟨(Sl.mk (Hd.mk none 0 0) []), rfl, (FRow.none _ _ _), (by rw [NodeP.appended, if_pos (show xr.abs.Term < m.abs.Term from hc14)]; first | done | rfl | exact hx18)⟩⟩ (.inl rfl)
  · have hb14 := hc14
    try simp only [Bool.or_eq_true, Bool.and_eq_true, Bool.or_eq_false_iff, Bool.and_eq_false_iff, decide_eq_true_eq, decide_eq_false_iff_not, Bool.not_eq_true', Bool.not_eq_false', Int.natCast_inj, Int.ofNat_lt, Int.ofNat_le] at hc14
    refine EW_skip ?_
    refine EQ_then (EQ_wp ?_)
    refine EW_seq ?_
    refine EW_seq ?_
    -- region 4 DRAWN  raft.go:406
    refine EW_drawC [] [⟨[], some 19, [0], .s, 0⟩, ⟨[0], some 20, [19], .s, 1⟩, ⟨[1], some 21, [20], .s, 3⟩, ⟨[2], some 22, [21], .s, 7⟩, ⟨[3], some 23, [22], .s, 15⟩, ⟨[4], some 24, [23], .s, 31⟩, ⟨[5], some 25, [3, 24], .s, 63⟩, ⟨[6, 5], some 26, [25, 24], .s, 127⟩, ⟨[5], some 27, [0, 24], .s, 63⟩, ⟨[8, 5], some 28, [27, 24], .s, 319⟩, ⟨[9, 5], some 29, [28, 24], .s, 831⟩, ⟨[10, 5], some 30, [29, 24], .s, 1855⟩, ⟨[11, 5], some 31, [30, 24], .s, 3903⟩, ⟨[12, 5], some 32, [31, 24], .s, 7999⟩, ⟨[7, 13, 5], some 33, [26, 32, 24], .s, 16383⟩, ⟨[5, 14], some 34, [24, 33], .s, 32767⟩] [.s, .s, .s, .s, .s, .s, .s, .s, .s, .s, .s, .s, .s, .s, .s, .s] [0, 1, 2, 3, 4, 5, 6, 7, 8, 9, 10, 11, 12, 13, 14, 15] mixed (by kernel_rfl) (by kernel_rfl) (by kernel_rfl) rfl rfl ?_
    refine EP_s rfl rfl rfl rfl rfl (by exact (os_move rfl)) ?_
    refine EP_s rfl rfl rfl rfl rfl (by exact (os_nilCheck rfl)) ?_
    refine EP_s rfl rfl rfl rfl rfl (by exact (os_field rfl fl47_4)) ?_
    refine EP_s rfl rfl rfl rfl rfl (by exact (os_load_one rfl one3 (cells_own (own_tail own_head) rfl))) ?_
    refine EP_s rfl rfl rfl rfl rfl (by exact (os_neq rfl rfl)) ?_
    refine EP_s rfl rfl rfl rfl rfl (by exact (os_move rfl)) ?_
    refine EP_joint 10 34 (.bool ((!decide (xr.role = 3)) || (!decide (((m.Term : Nat) : Int) = ((xr.Term : Nat) : Int))))) [6, 7, 8, 9, 10, 11, 12, 13, 14, 15] rfl rfl rfl ?_ ?_
    · skip
      refine ES_case (!decide (xr.role = 3)) (fun hg24 => ?_) (fun hg24 => ?_)
      · have hg24_ := hg24
        try simp only [Bool.or_eq_true, Bool.and_eq_true, Bool.or_eq_false_iff, Bool.and_eq_false_iff, decide_eq_true_eq, decide_eq_false_iff_not, Bool.not_eq_true', Bool.not_eq_false', Int.natCast_inj, Int.ofNat_lt, Int.ofNat_le] at hg24_
        refine ES_no rfl hg24 rfl rfl rfl rfl ?_
        refine ES_no rfl hg24 rfl rfl rfl rfl ?_
        refine ES_no rfl hg24 rfl rfl rfl rfl ?_
        refine ES_no rfl hg24 rfl rfl rfl rfl ?_
        refine ES_no rfl hg24 rfl rfl rfl rfl ?_
        refine ES_no rfl hg24 rfl rfl rfl rfl ?_
        refine ES_no rfl hg24 rfl rfl rfl rfl ?_
        refine ES_no rfl hg24 rfl rfl rfl rfl ?_
        refine ES_no rfl hg24 rfl rfl rfl rfl ?_
        refine ES_s rfl rfl rfl (os_pick_t' rfl hg24 rfl) ?_
        exact ES_fin 10 rfl rfl (by rw [hg24]; rfl)
      · have hg24_ := hg24
        try simp only [Bool.or_eq_true, Bool.and_eq_true, Bool.or_eq_false_iff, Bool.and_eq_false_iff, decide_eq_true_eq, decide_eq_false_iff_not, Bool.not_eq_true', Bool.not_eq_false', Int.natCast_inj, Int.ofNat_lt, Int.ofNat_le] at hg24_
        refine ES_yes (j := 5) (b := false) rfl rfl rfl hg24 rfl rfl (os_field rfl fl41_3) ?_
        refine ES_yes (j := 5) (b := false) rfl rfl rfl hg24 rfl rfl (os_load_one rfl one22 (cells_own own_head rfl)) ?_
        refine ES_yes (j := 5) (b := false) rfl rfl rfl hg24 rfl rfl (os_move rfl) ?_
        refine ES_yes (j := 5) (b := false) rfl rfl rfl hg24 rfl rfl (os_nilCheck rfl) ?_
        refine ES_yes (j := 5) (b := false) rfl rfl rfl hg24 rfl rfl (os_field rfl fl47_0) ?_
        refine ES_yes (j := 5) (b := false) rfl rfl rfl hg24 rfl rfl (os_field rfl fl36_0) ?_
        refine ES_yes (j := 5) (b := false) rfl rfl rfl hg24 rfl rfl (os_field rfl fl33_0) ?_
        refine ES_yes (j := 5) (b := false) rfl rfl rfl hg24 rfl rfl (os_load_one rfl one22 (cells_own (own_tail own_head) rfl)) ?_
        refine ES_yes (j := 5) (b := false) rfl rfl rfl hg24 rfl rfl (os_neq rfl rfl) ?_
        refine ES_s rfl rfl rfl (os_pick_f' rfl hg24 rfl) ?_
        exact ES_fin 10 rfl rfl (by rw [hg24]; rfl)
    refine EP_nil ?_
    refine EQ_then (EQ_wp ?_)
    refine EW_cond rfl (fun hc34 => ?_) (fun hc34 => ?_)
    · have hb34 := hc34
      try simp only [Bool.or_eq_true, Bool.and_eq_true, Bool.or_eq_false_iff, Bool.and_eq_false_iff, decide_eq_true_eq, decide_eq_false_iff_not, Bool.not_eq_true', Bool.not_eq_false', Int.natCast_inj, Int.ofNat_lt, Int.ofNat_le] at hc34
      refine EW_seq ?_
      -- region 5  raft.go:407
      refine EW_region ?_
      refine EL_s rfl rfl rfl (os_assign rfl) ?_
      refine EL_nil ?_
      refine EQ_then (EQ_wp ?_)
      refine EW_ret ?_
      refine EQ_then_ret (?_)
      exact pn_ret1 [_, _, _, _, _] Try.results72 (rv_tmp rfl) (.refl _) (Incl.skip (Incl.cons (Incl.cons (Incl.cons (Incl.cons (Incl.cons (Incl.refl _) _) _) _) _) _) _) ⟨(NodeAt.to xr hora horb horc hord (by rw [NodeP.appended, if_neg (show ¬ xr.abs.Term < m.abs.Term from (by show ¬ xr.Term < m.Term; omega)), if_pos (show (¬ xr.abs.role = 3 ∨ ¬ m.abs.Term = xr.abs.Term) from (by show (¬ xr.role = 3 ∨ ¬ m.Term = xr.Term); omega))]; first | done | rfl)), ⟨(Sl.mk (Hd.mk none 0 0) []), rfl, (FRow.none _ _ _), (by rw [NodeP.appended, if_neg (show ¬ xr.abs.Term < m.abs.Term from (by show ¬ xr.Term < m.Term; omega)), if_pos (show (¬ xr.abs.role = 3 ∨ ¬ m.abs.Term = xr.abs.Term) from (by show (¬ xr.role = 3 ∨ ¬ m.Term = xr.Term); omega))]; first | done | rfl)⟩⟩ (.inl rfl)
    · have hb34 := hc34
      try simp only [Bool.or_eq_true, Bool.and_eq_true, Bool.or_eq_false_iff, Bool.and_eq_false_iff, decide_eq_true_eq, decide_eq_false_iff_not, Bool.not_eq_true', Bool.not_eq_false', Int.natCast_inj, Int.ofNat_lt, Int.ofNat_le] at hc34
      refine EW_skip ?_
      refine EQ_then (EQ_wp ?_)
      refine EW_seq ?_
      refine EW_seq ?_
      -- region 6  raft.go:409
      refine EW_region ?_
      have hr3 : xr.role = 3 := by omega
      have hlm := hp1 hr3
      have hln := hp2 hr3
      refine EL_s rfl rfl rfl (os_field rfl fl41_8) ?_
      refine EL_s rfl rfl rfl (os_load_one rfl one4 (cells_own own_head rfl)) ?_
      refine EL_nil ?_
      refine EQ_then (EQ_wp ?_)
      refine EW_cond rfl (fun hc36 => ?_) (fun hc36 => ?_)
      · have hb36 := hc36
        try simp only [Bool.or_eq_true, Bool.and_eq_true, Bool.or_eq_false_iff, Bool.and_eq_false_iff, decide_eq_true_eq, decide_eq_false_iff_not, Bool.not_eq_true', Bool.not_eq_false', Int.natCast_inj, Int.ofNat_lt, Int.ofNat_le] at hc36
        refine EW_seq ?_
        refine EW_seq ?_
        -- region 7 DRAWN  raft.go:410
        refine EW_drawC [] [⟨[], some 37, [3], .s, 0⟩, ⟨[0], some 38, [37], .s, 1⟩, ⟨[], some 39, [0], .s, 0⟩, ⟨[2], some 40, [39], .s, 4⟩, ⟨[1, 3], some 41, [38, 40], .s, 15⟩, ⟨[4, 3], some 42, [41], .s, 31⟩, ⟨[5], some 43, [3, 42], .s, 63⟩, ⟨[6, 5], some 44, [43, 42], .s, 127⟩, ⟨[5], some 45, [0, 42], .s, 63⟩, ⟨[8, 5], some 46, [45, 42], .s, 319⟩, ⟨[9, 5], some 47, [46, 42], .s, 831⟩, ⟨[10, 5], some 48, [47, 42], .s, 1855⟩, ⟨[5], some 49, [3, 42], .s, 63⟩, ⟨[12, 5], some 50, [49, 42], .s, 4159⟩, ⟨[11, 13, 5], some 51, [48, 50, 42], .s, 16191⟩, ⟨[14, 5], some 52, [51, 42], .s, 32575⟩, ⟨[7, 15, 5], some 53, [44, 52, 42], .s, 65535⟩, ⟨[5, 16], some 54, [42, 53], .s, 131071⟩] [.s, .s, .s, .s, .s, .s, .s, .s, .s, .s, .s, .s, .s, .s, .s, .s, .s, .s] [0, 1, 2, 3, 4, 5, 6, 7, 8, 9, 10, 11, 12, 13, 14, 15, 16, 17] mixed (by kernel_rfl) (by kernel_rfl) (by kernel_rfl) rfl rfl ?_
        refine EP_s rfl rfl rfl rfl rfl (by exact (os_field rfl fl41_4)) ?_
        refine EP_s rfl rfl rfl rfl rfl (by exact (os_load_one rfl one22 (cells_own own_head rfl))) ?_
        refine EP_s rfl rfl rfl rfl rfl (by exact (os_move rfl)) ?_
        refine EP_s rfl rfl rfl rfl rfl (by exact (os_call (vs := [(.pointer (some ⟨br, 0, none⟩))]) body14 rfl (n_Last (NodeAt.intro xr hora horb horc hord) (incl_mid [_] [_, _, _, _, _] _) (by exact hp0)))) ?_
        have hq40 : NodeP.last (xr.abs) = xr.Base + xr.Entries.xs.length := by simp [NodeP.last, Node.abs]
        refine EP_s rfl rfl rfl rfl rfl (by exact (os_leq rfl rfl)) ?_
        refine EP_s rfl rfl rfl rfl rfl (by exact (os_move rfl)) ?_
        refine EP_split (t := 42) rfl (fun hc42 => ?_) (fun hc42 => ?_)
        · try simp only [Bool.or_eq_true, Bool.and_eq_true, Bool.or_eq_false_iff, Bool.and_eq_false_iff, decide_eq_true_eq, decide_eq_false_iff_not, Bool.not_eq_true', Bool.not_eq_false', Int.natCast_inj, Int.ofNat_lt, Int.ofNat_le] at hc42
          refine EP_s_yes rfl rfl rfl rfl rfl rfl rfl (by exact (os_field rfl fl41_4)) ?_
          refine EP_s_yes rfl rfl rfl rfl rfl rfl rfl (by exact (os_load_one rfl one22 (cells_own own_head rfl))) ?_
          refine EP_s_yes rfl rfl rfl rfl rfl rfl rfl (by exact (os_move rfl)) ?_
          refine EP_s_yes rfl rfl rfl rfl rfl rfl rfl (by exact (os_nilCheck rfl)) ?_
          refine EP_s_yes rfl rfl rfl rfl rfl rfl rfl (by exact (os_field rfl fl47_9)) ?_
          refine EP_s_yes rfl rfl rfl rfl rfl rfl rfl (by exact (os_load_one rfl one23 (cells_own (own_tail own_head) rfl))) ?_
          refine EP_s_yes rfl rfl rfl rfl rfl rfl rfl (by exact (os_field rfl fl41_1)) ?_
          refine EP_s_yes rfl rfl rfl rfl rfl rfl rfl (by exact (os_load_one rfl one3 (cells_own own_head rfl))) ?_
          have hl51 := (show xr.match_.h.n = xr.match_.xs.length from OwnR.len horc)
          obtain ⟨x51, hx51⟩ := get_some (l := xr.match_.xs) (k := (m.From).toNat) (by first | omega | (simp only [List.length_set, List.length_replicate, List.length_cons, List.length_nil]; omega) | (simp <;> omega))
          refine EP_s_yes rfl rfl rfl rfl rfl rfl rfl (by exact (os_at (m := xr.match_.h.n) ((m.From).toNat) rfl rfl (by omega) sl23 (by omega) (by have hz_ := OwnR.some horc (by show 0 < xr.match_.h.n; omega); exact hz_))) ?_
          have hmx : xr.abs.match_.getD m.abs.From.toNat 0 = x51 := by simp [Node.abs, Msg.abs, List.getD, hx51]
          have hk52 : x51 ≤ 18446744073709551615 := OwnR.okAt horc hx51
          refine EP_s_yes rfl rfl rfl rfl rfl rfl rfl (by exact (os_load_one rfl one22 (FRow.whole (OwnR.frow horc fun x hx => .inr (own_tail (own_tail (own_tail (own_tail (own_seg hx)))))) hx51))) ?_
          refine EP_s_yes rfl rfl rfl rfl rfl rfl rfl (by exact (os_gtr rfl rfl)) ?_
          refine EP_s rfl rfl rfl rfl rfl (by exact (os_pick_t rfl rfl)) ?_
          refine EP_nil ?_
          refine EQ_then (EQ_wp ?_)
          refine EW_cond rfl (fun hc54 => ?_) (fun hc54 => ?_)
          · have hb54 := hc54
            try simp only [Bool.or_eq_true, Bool.and_eq_true, Bool.or_eq_false_iff, Bool.and_eq_false_iff, decide_eq_true_eq, decide_eq_false_iff_not, Bool.not_eq_true', Bool.not_eq_false', Int.natCast_inj, Int.ofNat_lt, Int.ofNat_le] at hc54
            refine EW_seq ?_
            -- region 8 DRAWN  raft.go:411
            refine EW_drawC [] [⟨[], some 55, [0], .s, 0⟩, ⟨[0], some 56, [55], .s, 1⟩, ⟨[1], some 57, [56], .s, 3⟩, ⟨[2], some 58, [57], .s, 7⟩, ⟨[], some 59, [3], .s, 0⟩, ⟨[4], some 60, [59], .s, 16⟩, ⟨[], some 61, [3], .s, 0⟩, ⟨[6], some 62, [61], .s, 64⟩, ⟨[3, 5, 0, 1, 2, 3, 4, 5, 6, 7], some 63, [58, 60], .s, 255⟩, ⟨[8, 7, 0, 1, 2, 3, 4, 5, 6, 7], none, [63, 62], .x, 511⟩] [.s, .s, .s, .s, .s, .s, .s, .s, .s, .x] [0, 1, 2, 3, 4, 5, 6, 7, 8, 9] mixed (by kernel_rfl) (by kernel_rfl) (by kernel_rfl) rfl rfl ?_
            refine EP_s rfl rfl rfl rfl rfl (by exact (os_move rfl)) ?_
            refine EP_s rfl rfl rfl rfl rfl (by exact (os_nilCheck rfl)) ?_
            refine EP_s rfl rfl rfl rfl rfl (by exact (os_field rfl fl47_9)) ?_
            refine EP_s rfl rfl rfl rfl rfl (by exact (os_load_one rfl one23 (cells_own (own_tail own_head) rfl))) ?_
            refine EP_s rfl rfl rfl rfl rfl (by exact (os_field rfl fl41_1)) ?_
            refine EP_s rfl rfl rfl rfl rfl (by exact (os_load_one rfl one3 (cells_own own_head rfl))) ?_
            refine EP_s rfl rfl rfl rfl rfl (by exact (os_field rfl fl41_4)) ?_
            refine EP_s rfl rfl rfl rfl rfl (by exact (os_load_one rfl one22 (cells_own own_head rfl))) ?_
            have hl63 := (show xr.match_.h.n = xr.match_.xs.length from OwnR.len horc)
            obtain ⟨x63, hx63⟩ := get_some (l := xr.match_.xs) (k := (m.From).toNat) (by first | omega | (simp only [List.length_set, List.length_replicate, List.length_cons, List.length_nil]; omega) | (simp <;> omega))
            refine EP_s rfl rfl rfl rfl rfl (by exact (os_at (m := xr.match_.h.n) ((m.From).toNat) rfl rfl (by omega) sl23 (by omega) (by have hz_ := OwnR.some horc (by show 0 < xr.match_.h.n; omega); exact hz_))) ?_
            refine EP_z rfl rfl rfl rfl (by exact (ox_set m.Index rfl rfl sz22 rfl horc (by first | omega | (simp only [List.length_set, List.length_replicate, List.length_cons, List.length_nil]; omega) | (simp <;> omega)) (by simp only [rU64]; omega) (bk_4 _ _ _ _ _ _))) ?_
            rintro L8_9 v8_9 ⟨S8_9, rfl, ho8_9⟩
            refine EP_perm (bk_4 _ _ _ _ _ _) ?_
            have ho8_9 : OwnR rU64 I0 22 (Sl.mk xr.match_.h (xr.match_.xs.set ((m.From).toNat) m.Index)) S8_9 := ho8_9
            refine EP_nil ?_
            refine EQ_then (EQ_wp ?_)
            refine EW_seq ?_
            -- region 9 DRAWN  raft.go:412
            refine EW_drawC [] [⟨[], some 64, [0], .s, 0⟩, ⟨[0], some 65, [64], .s, 1⟩, ⟨[1], some 66, [65], .s, 3⟩, ⟨[2], some 67, [66], .s, 7⟩, ⟨[], some 68, [3], .s, 0⟩, ⟨[4], some 69, [68], .s, 16⟩, ⟨[], some 70, [3], .s, 0⟩, ⟨[6], some 71, [70], .s, 64⟩, ⟨[7], some 72, [71], .s, 192⟩, ⟨[3, 5, 0, 1, 2, 3, 4, 5, 6, 7, 8], some 73, [67, 69], .s, 511⟩, ⟨[9, 8, 0, 1, 2, 3, 4, 5, 6, 7, 8], none, [73, 72], .x, 1023⟩] [.s, .s, .s, .s, .s, .s, .s, .s, .s, .s, .x] [0, 1, 2, 3, 4, 5, 6, 7, 8, 9, 10] mixed (by kernel_rfl) (by kernel_rfl) (by kernel_rfl) rfl rfl ?_
            refine EP_s rfl rfl rfl rfl rfl (by exact (os_move rfl)) ?_
            refine EP_s rfl rfl rfl rfl rfl (by exact (os_nilCheck rfl)) ?_
            refine EP_s rfl rfl rfl rfl rfl (by exact (os_field rfl fl47_10)) ?_
            refine EP_s rfl rfl rfl rfl rfl (by exact (os_load_one rfl one23 (cells_own (own_tail own_head) rfl))) ?_
            refine EP_s rfl rfl rfl rfl rfl (by exact (os_field rfl fl41_1)) ?_
            refine EP_s rfl rfl rfl rfl rfl (by exact (os_load_one rfl one3 (cells_own own_head rfl))) ?_
            refine EP_s rfl rfl rfl rfl rfl (by exact (os_field rfl fl41_4)) ?_
            refine EP_s rfl rfl rfl rfl rfl (by exact (os_load_one rfl one22 (cells_own own_head rfl))) ?_
            refine EP_s rfl rfl rfl rfl rfl (by exact (os_addn (p := m.Index) (q := 1) rfl rfl (IntWalk.u64_in _ (by omega)))) ?_
            have hl73 := (show xr.next.h.n = xr.next.xs.length from OwnR.len hord)
            obtain ⟨x73, hx73⟩ := get_some (l := xr.next.xs) (k := (m.From).toNat) (by first | omega | (simp only [List.length_set, List.length_replicate, List.length_cons, List.length_nil]; omega) | (simp <;> omega))
            refine EP_s rfl rfl rfl rfl rfl (by exact (os_at (m := xr.next.h.n) ((m.From).toNat) rfl rfl (by omega) sl23 (by omega) (by have hz_ := OwnR.some hord (by show 0 < xr.next.h.n; omega); exact hz_))) ?_
            refine EP_z rfl rfl rfl rfl (by exact (ox_set (m.Index + 1) rfl rfl sz22 rfl hord (by first | omega | (simp only [List.length_set, List.length_replicate, List.length_cons, List.length_nil]; omega) | (simp <;> omega)) (by simp only [rU64]; omega) (bk_5 _ _ _ _ _ _ _))) ?_
            rintro L9_10 v9_10 ⟨S9_10, rfl, ho9_10⟩
            refine EP_perm (bk_5 _ _ _ _ _ _ _) ?_
            have ho9_10 : OwnR rU64 I0 22 (Sl.mk xr.next.h (xr.next.xs.set ((m.From).toNat) (m.Index + 1))) S9_10 := ho9_10
            refine EP_nil ?_
            refine EQ_then (EQ_wp ?_)
            -- region 10  raft.go:413
            refine EW_region ?_
            refine EL_s rfl rfl rfl (os_move rfl) ?_
            refine EL_x rfl rfl (ox_callN (vs := [(.pointer (some ⟨br, 0, none⟩))]) body114 rfl (pl_1_5 _ _ _ _ _ _ _) (n_agree (NodeAt.intro (Node.mk xr.Term xr.Vote xr.Base xr.BaseTerm xr.Entries xr.id xr.n xr.limit xr.role xr.lead xr.commit xr.clock xr.votes (Sl.mk xr.match_.h (xr.match_.xs.set ((m.From).toNat) m.Index)) (Sl.mk xr.next.h (xr.next.xs.set ((m.From).toNat) (m.Index + 1)))) hora horb ho8_9 ho9_10) (by exact ⟨hp0.base, hp0.len, hp0.term, hp0.id0, hp0.idn, hp0.n5, hp0.lim0, hp0.lim1, hp0.clk0, hp0.clk1, hp0.bt, hp0.trm, hp0.cmt⟩) (by simp only [Node.abs, List.length_set]; omega))) ?_
            rintro I75 L75 v75 hI75 ⟨Ss75, rfl, ⟨x75, S75a, S75b, S75c, S75d, hx75, rfl, ho75a, ho75b, ho75c, ho75d⟩, rfl⟩
            refine EL_perm (nm_5 _ _ _ _ _ _) ?_
            refine EL_nil ?_
            refine EQ_then (EQ_wp ?_)
            refine EW_seq ?_
            -- region 11  raft.go:415
            refine EW_region ?_
            refine EL_s rfl rfl rfl (os_assign rfl) ?_
            refine EL_nil ?_
            refine EQ_then (EQ_wp ?_)
            refine EW_ret ?_
            refine EQ_then_ret (?_)
            exact pn_ret1 [_, _, _, _, _] Try.results72 (rv_tmp rfl) hI75 (Incl.cons (Incl.cons (Incl.cons (Incl.cons (Incl.cons (Incl.skip (Incl.refl _) _) _) _) _) _) _) ⟨(NodeAt.to x75 ho75a ho75b ho75c ho75d (by rw [NodeP.appended, if_neg (show ¬ xr.abs.Term < m.abs.Term from (by show ¬ xr.Term < m.Term; omega)), if_neg (show ¬ (¬ xr.abs.role = 3 ∨ ¬ m.abs.Term = xr.abs.Term) from (by show ¬ (¬ xr.role = 3 ∨ ¬ m.Term = xr.Term); omega)), if_pos (show m.abs.OK = true from hc36), if_pos (show m.abs.Index ≤ xr.abs.last ∧ xr.abs.match_.getD m.abs.From.toNat 0 < m.abs.Index from ⟨hc42, by rw [hmx]; exact hc54⟩)]; first | done | rfl | exact hx75)), ⟨(Sl.mk (Hd.mk none 0 0) []), rfl, (FRow.none _ _ _), (by rw [NodeP.appended, if_neg (show ¬ xr.abs.Term < m.abs.Term from (by show ¬ xr.Term < m.Term; omega)), if_neg (show ¬ (¬ xr.abs.role = 3 ∨ ¬ m.abs.Term = xr.abs.Term) from (by show ¬ (¬ xr.role = 3 ∨ ¬ m.Term = xr.Term); omega)), if_pos (show m.abs.OK = true from hc36), if_pos (show m.abs.Index ≤ xr.abs.last ∧ xr.abs.match_.getD m.abs.From.toNat 0 < m.abs.Index from ⟨hc42, by rw [hmx]; exact hc54⟩)]; first | done | rfl | exact hx75)⟩⟩ (.inl rfl)
          · have hb54 := hc54
            try simp only [Bool.or_eq_true, Bool.and_eq_true, Bool.or_eq_false_iff, Bool.and_eq_false_iff, decide_eq_true_eq, decide_eq_false_iff_not, Bool.not_eq_true', Bool.not_eq_false', Int.natCast_inj, Int.ofNat_lt, Int.ofNat_le] at hc54
            refine EW_skip ?_
            refine EQ_then (EQ_wp ?_)
            refine EW_seq ?_
            -- region 11  raft.go:415
            refine EW_region ?_
            refine EL_s rfl rfl rfl (os_assign rfl) ?_
            refine EL_nil ?_
            refine EQ_then (EQ_wp ?_)
            refine EW_ret ?_
            refine EQ_then_ret (?_)
            exact pn_ret1 [_, _, _, _, _] Try.results72 (rv_tmp rfl) (.refl _) (Incl.skip (Incl.cons (Incl.cons (Incl.cons (Incl.cons (Incl.cons (Incl.refl _) _) _) _) _) _) _) ⟨(NodeAt.to xr hora horb horc hord (by rw [NodeP.appended, if_neg (show ¬ xr.abs.Term < m.abs.Term from (by show ¬ xr.Term < m.Term; omega)), if_neg (show ¬ (¬ xr.abs.role = 3 ∨ ¬ m.abs.Term = xr.abs.Term) from (by show ¬ (¬ xr.role = 3 ∨ ¬ m.Term = xr.Term); omega)), if_pos (show m.abs.OK = true from hc36), if_neg (show ¬ (m.abs.Index ≤ xr.abs.last ∧ xr.abs.match_.getD m.abs.From.toNat 0 < m.abs.Index) from (by rw [hmx]; show ¬ (m.Index ≤ xr.abs.last ∧ x51 < m.Index); omega))]; first | done | rfl)), ⟨(Sl.mk (Hd.mk none 0 0) []), rfl, (FRow.none _ _ _), (by rw [NodeP.appended, if_neg (show ¬ xr.abs.Term < m.abs.Term from (by show ¬ xr.Term < m.Term; omega)), if_neg (show ¬ (¬ xr.abs.role = 3 ∨ ¬ m.abs.Term = xr.abs.Term) from (by show ¬ (¬ xr.role = 3 ∨ ¬ m.Term = xr.Term); omega)), if_pos (show m.abs.OK = true from hc36), if_neg (show ¬ (m.abs.Index ≤ xr.abs.last ∧ xr.abs.match_.getD m.abs.From.toNat 0 < m.abs.Index) from (by rw [hmx]; show ¬ (m.Index ≤ xr.abs.last ∧ x51 < m.Index); omega))]; first | done | rfl)⟩⟩ (.inl rfl)
        · try simp only [Bool.or_eq_true, Bool.and_eq_true, Bool.or_eq_false_iff, Bool.and_eq_false_iff, decide_eq_true_eq, decide_eq_false_iff_not, Bool.not_eq_true', Bool.not_eq_false', Int.natCast_inj, Int.ofNat_lt, Int.ofNat_le] at hc42
          refine EP_no rfl rfl rfl rfl rfl rfl rfl ?_
          refine EP_no rfl rfl rfl rfl rfl rfl rfl ?_
          refine EP_no rfl rfl rfl rfl rfl rfl rfl ?_
          refine EP_no rfl rfl rfl rfl rfl rfl rfl ?_
          refine EP_no rfl rfl rfl rfl rfl rfl rfl ?_
          refine EP_no rfl rfl rfl rfl rfl rfl rfl ?_
          refine EP_no rfl rfl rfl rfl rfl rfl rfl ?_
          refine EP_no rfl rfl rfl rfl rfl rfl rfl ?_
          refine EP_no rfl rfl rfl rfl rfl rfl rfl ?_
          refine EP_no rfl rfl rfl rfl rfl rfl rfl ?_
          refine EP_no rfl rfl rfl rfl rfl rfl rfl ?_
          refine EP_s rfl rfl rfl rfl rfl (by exact (os_pick_f rfl rfl)) ?_
          refine EP_nil ?_
          refine EQ_then (EQ_wp ?_)
          refine EW_false rfl ?_
          refine EW_skip ?_
          refine EQ_then (EQ_wp ?_)
          refine EW_seq ?_
          -- region 11  raft.go:415
          refine EW_region ?_
          refine EL_s rfl rfl rfl (os_assign rfl) ?_
          refine EL_nil ?_
          refine EQ_then (EQ_wp ?_)
          refine EW_ret ?_
          refine EQ_then_ret (?_)
          exact pn_ret1 [_, _, _, _, _] Try.results72 (rv_tmp rfl) (.refl _) (Incl.skip (Incl.cons (Incl.cons (Incl.cons (Incl.cons (Incl.cons (Incl.refl _) _) _) _) _) _) _) ⟨(NodeAt.to xr hora horb horc hord (by rw [NodeP.appended, if_neg (show ¬ xr.abs.Term < m.abs.Term from (by show ¬ xr.Term < m.Term; omega)), if_neg (show ¬ (¬ xr.abs.role = 3 ∨ ¬ m.abs.Term = xr.abs.Term) from (by show ¬ (¬ xr.role = 3 ∨ ¬ m.Term = xr.Term); omega)), if_pos (show m.abs.OK = true from hc36), if_neg (show ¬ (m.abs.Index ≤ xr.abs.last ∧ xr.abs.match_.getD m.abs.From.toNat 0 < m.abs.Index) from (by show ¬ (m.Index ≤ xr.abs.last ∧ _); omega))]; first | done | rfl)), ⟨(Sl.mk (Hd.mk none 0 0) []), rfl, (FRow.none _ _ _), (by rw [NodeP.appended, if_neg (show ¬ xr.abs.Term < m.abs.Term from (by show ¬ xr.Term < m.Term; omega)), if_neg (show ¬ (¬ xr.abs.role = 3 ∨ ¬ m.abs.Term = xr.abs.Term) from (by show ¬ (¬ xr.role = 3 ∨ ¬ m.Term = xr.Term); omega)), if_pos (show m.abs.OK = true from hc36), if_neg (show ¬ (m.abs.Index ≤ xr.abs.last ∧ xr.abs.match_.getD m.abs.From.toNat 0 < m.abs.Index) from (by show ¬ (m.Index ≤ xr.abs.last ∧ _); omega))]; first | done | rfl)⟩⟩ (.inl rfl)
      · have hb36 := hc36
        try simp only [Bool.or_eq_true, Bool.and_eq_true, Bool.or_eq_false_iff, Bool.and_eq_false_iff, decide_eq_true_eq, decide_eq_false_iff_not, Bool.not_eq_true', Bool.not_eq_false', Int.natCast_inj, Int.ofNat_lt, Int.ofNat_le] at hc36
        refine EW_skip ?_
        refine EQ_then (EQ_wp ?_)
        refine EW_seq ?_
        -- region 12 DRAWN  raft.go:417
        refine EW_drawC [] [⟨[], some 76, [0], .s, 0⟩, ⟨[0], some 77, [76], .s, 1⟩, ⟨[1], some 78, [77], .s, 3⟩, ⟨[2], some 79, [78], .s, 7⟩, ⟨[], some 80, [3], .s, 0⟩, ⟨[4], some 81, [80], .s, 16⟩, ⟨[], some 82, [0], .s, 0⟩, ⟨[6], some 83, [82], .s, 64⟩, ⟨[7], some 84, [83], .s, 192⟩, ⟨[8], some 85, [84], .s, 448⟩, ⟨[], some 86, [3], .s, 0⟩, ⟨[10], some 87, [86], .s, 1024⟩, ⟨[9, 11], some 88, [85, 87], .s, 4032⟩, ⟨[12], some 89, [88], .s, 8128⟩, ⟨[], some 90, [3], .s, 0⟩, ⟨[14], some 91, [90], .s, 16384⟩, ⟨[], some 92, [0], .s, 0⟩, ⟨[16], some 93, [92], .s, 65536⟩, ⟨[15, 17], some 94, [91, 93], .s, 245760⟩, ⟨[13, 18], some 95, [89, 94], .s, 524224⟩, ⟨[19], some 96, [95], .s, 1048512⟩, ⟨[3, 5, 0, 1, 2, 3, 4, 5, 6, 7, 8, 9, 10, 11, 12, 13, 14, 15, 16, 17, 18, 19, 20], some 97, [79, 81], .s, 2097151⟩, ⟨[21, 20, 17, 0, 1, 2, 3, 4, 5, 6, 7, 8, 9, 10, 11, 12, 13, 14, 15, 16, 17, 18, 19, 20], none, [97, 96], .x, 4194303⟩] [.s, .s, .s, .s, .s, .s, .s, .s, .s, .s, .s, .s, .s, .s, .s, .s, .s, .s, .s, .s, .s, .s, .x] [0, 1, 2, 3, 4, 5, 6, 7, 8, 9, 10, 11, 12, 13, 14, 15, 16, 17, 18, 19, 20, 21, 22] mixed (by kernel_rfl) (by kernel_rfl) (by kernel_rfl) rfl rfl ?_
        refine EP_s rfl rfl rfl rfl rfl (by exact (os_move rfl)) ?_
        refine EP_s rfl rfl rfl rfl rfl (by exact (os_nilCheck rfl)) ?_
        refine EP_s rfl rfl rfl rfl rfl (by exact (os_field rfl fl47_10)) ?_
        refine EP_s rfl rfl rfl rfl rfl (by exact (os_load_one rfl one23 (cells_own (own_tail own_head) rfl))) ?_
        refine EP_s rfl rfl rfl rfl rfl (by exact (os_field rfl fl41_1)) ?_
        refine EP_s rfl rfl rfl rfl rfl (by exact (os_load_one rfl one3 (cells_own own_head rfl))) ?_
        refine EP_s rfl rfl rfl rfl rfl (by exact (os_move rfl)) ?_
        refine EP_s rfl rfl rfl rfl rfl (by exact (os_nilCheck rfl)) ?_
        refine EP_s rfl rfl rfl rfl rfl (by exact (os_field rfl fl47_9)) ?_
        refine EP_s rfl rfl rfl rfl rfl (by exact (os_load_one rfl one23 (cells_own (own_tail own_head) rfl))) ?_
        refine EP_s rfl rfl rfl rfl rfl (by exact (os_field rfl fl41_1)) ?_
        refine EP_s rfl rfl rfl rfl rfl (by exact (os_load_one rfl one3 (cells_own own_head rfl))) ?_
        have hl88 := (show xr.match_.h.n = xr.match_.xs.length from OwnR.len horc)
        obtain ⟨x88, hx88⟩ := get_some (l := xr.match_.xs) (k := (m.From).toNat) (by first | omega | (simp only [List.length_set, List.length_replicate, List.length_cons, List.length_nil]; omega) | (simp <;> omega))
        refine EP_s rfl rfl rfl rfl rfl (by exact (os_at (m := xr.match_.h.n) ((m.From).toNat) rfl rfl (by omega) sl23 (by omega) (by have hz_ := OwnR.some horc (by show 0 < xr.match_.h.n; omega); exact hz_))) ?_
        have hmx : xr.abs.match_.getD m.abs.From.toNat 0 = x88 := by simp [Node.abs, Msg.abs, List.getD, hx88]
        have hmb := hp6 x88 (List.mem_of_getElem? hx88)
        have hk89 : x88 ≤ 18446744073709551615 := OwnR.okAt horc hx88
        refine EP_s rfl rfl rfl rfl rfl (by exact (os_load_one rfl one22 (FRow.whole (OwnR.frow horc fun x hx => .inr (own_tail (own_tail (own_tail (own_tail (own_seg hx)))))) hx88))) ?_
        refine EP_s rfl rfl rfl rfl rfl (by exact (os_field rfl fl41_4)) ?_
        refine EP_s rfl rfl rfl rfl rfl (by exact (os_load_one rfl one22 (cells_own own_head rfl))) ?_
        refine EP_s rfl rfl rfl rfl rfl (by exact (os_move rfl)) ?_
        refine EP_s rfl rfl rfl rfl rfl (by exact (os_call (vs := [(.pointer (some ⟨br, 0, none⟩))]) body14 rfl (n_Last (NodeAt.intro xr hora horb horc hord) (incl_mid [_] [_, _, _, _, _] _) (by exact hp0)))) ?_
        have hq93 : NodeP.last (xr.abs) = xr.Base + xr.Entries.xs.length := by simp [NodeP.last, Node.abs]
        refine EP_s rfl rfl rfl rfl rfl (by exact (os_minn (p := m.Index) (q := ((xr.abs).last)) rfl rfl)) ?_
        refine EP_s rfl rfl rfl rfl rfl (by exact (os_maxn (p := x88) (q := (min m.Index ((xr.abs).last))) rfl rfl)) ?_
        refine EP_s rfl rfl rfl rfl rfl (by exact (os_addn (p := (max x88 (min m.Index ((xr.abs).last)))) (q := 1) rfl rfl (IntWalk.u64_in _ (by omega)))) ?_
        have hl97 := (show xr.next.h.n = xr.next.xs.length from OwnR.len hord)
        obtain ⟨x97, hx97⟩ := get_some (l := xr.next.xs) (k := (m.From).toNat) (by first | omega | (simp only [List.length_set, List.length_replicate, List.length_cons, List.length_nil]; omega) | (simp <;> omega))
        refine EP_s rfl rfl rfl rfl rfl (by exact (os_at (m := xr.next.h.n) ((m.From).toNat) rfl rfl (by omega) sl23 (by omega) (by have hz_ := OwnR.some hord (by show 0 < xr.next.h.n; omega); exact hz_))) ?_
        refine EP_z rfl rfl rfl rfl (by exact (ox_set ((max x88 (min m.Index ((xr.abs).last))) + 1) rfl rfl sz22 rfl hord (by first | omega | (simp only [List.length_set, List.length_replicate, List.length_cons, List.length_nil]; omega) | (simp <;> omega)) (by simp only [rU64]; omega) (bk_5 _ _ _ _ _ _ _))) ?_
        rintro L12_22 v12_22 ⟨S12_22, rfl, ho12_22⟩
        refine EP_perm (bk_5 _ _ _ _ _ _ _) ?_
        have ho12_22 : OwnR rU64 I0 22 (Sl.mk xr.next.h (xr.next.xs.set ((m.From).toNat) ((max x88 (min m.Index ((xr.abs).last))) + 1))) S12_22 := ho12_22
        refine EP_nil ?_
        refine EQ_then (EQ_wp ?_)
        refine EW_seq ?_
        -- region 13  raft.go:418
        refine EW_region ?_
        refine EL_s rfl rfl rfl (os_move rfl) ?_
        refine EL_s rfl rfl rfl (os_field rfl fl41_1) ?_
        refine EL_s rfl rfl rfl (os_load_one rfl one3 (cells_own own_head rfl)) ?_
        have hnd : ({ xr.abs with next := xr.abs.next.set m.abs.From.toNat (max (xr.abs.match_.getD m.abs.From.toNat 0) (min m.abs.Index xr.abs.last) + 1) } : NodeP) = Node.abs (Node.mk xr.Term xr.Vote xr.Base xr.BaseTerm xr.Entries xr.id xr.n xr.limit xr.role xr.lead xr.commit xr.clock xr.votes xr.match_ (Sl.mk xr.next.h (xr.next.xs.set ((m.From).toNat) ((max x88 (min m.Index ((xr.abs).last))) + 1)))) := by rw [hmx]; rfl
        refine EL_g rfl rfl rfl (og_call (vs := [(.pointer (some ⟨br, 0, none⟩)), (.int .i64 m.From)]) body74 rfl (n_send (NodeAt.intro (Node.mk xr.Term xr.Vote xr.Base xr.BaseTerm xr.Entries xr.id xr.n xr.limit xr.role xr.lead xr.commit xr.clock xr.votes xr.match_ (Sl.mk xr.next.h (xr.next.xs.set ((m.From).toNat) ((max x88 (min m.Index ((xr.abs).last))) + 1)))) hora horb horc ho12_22) (incl_mid [_] [_, _, _, _, _] _) m.From (by exact ⟨hp0.base, hp0.len, hp0.term, hp0.id0, hp0.idn, hp0.n5, hp0.lim0, hp0.lim1, hp0.clk0, hp0.clk1, hp0.bt, hp0.trm, hp0.cmt⟩) (by simp only [Node.abs, List.length_set]; omega))) ?_
        intro I101 v101 hI101 hv101
        obtain ⟨y101, rfl, hy101, hay101⟩ := hv101
        refine EL_a rfl rfl rfl (oa_alloc z41) ?_
        intro b5
        refine EL_u rfl rfl (ox_store rfl rfl sz41 rfl (by rfl) (.head .head)) ?_
        refine EL_nil ?_
        refine EQ_then (EQ_wp ?_)
        refine EW_seq ?_
        -- region 14  raft.go:419
        refine EW_region ?_
        refine EL_s rfl rfl rfl (os_move rfl) ?_
        refine EL_s rfl rfl rfl (os_load_agg (cs := [_, _, _, _, _, _, _, _, _, _]) rfl agg41 (cells_own (own_tail own_head) rfl)) ?_
        refine EL_s rfl rfl rfl (os_load_agg (cs := [_, _, _, _, _, _, _, _, _, _]) rfl agg41 (cells_own own_head rfl)) ?_
        refine EL_g rfl rfl rfl (og_call (vs := [(.pointer (some ⟨br, 0, none⟩)), (.agg (m.cells).toArray), (.agg (y101.cells).toArray)]) body67 rfl (n_answer (NodeAt.intro (Node.mk xr.Term xr.Vote xr.Base xr.BaseTerm xr.Entries xr.id xr.n xr.limit xr.role xr.lead xr.commit xr.clock xr.votes xr.match_ (Sl.mk xr.next.h (xr.next.xs.set ((m.From).toNat) ((max x88 (min m.Index ((xr.abs).last))) + 1)))) (hora.mono hI101) (horb.mono hI101) (horc.mono hI101) (ho12_22.mono hI101)) (incl_mid [_, _] [_, _, _, _, _] _) (hm.mono hI101) hy101 (by first | (simp only [Node.abs]; omega) | (have h1 := hfw.id0; have h2 := hfw.idn; have h3 := hfw.n5; simp only [Node.abs] at h1 h2 h3 ⊢; omega)))) ?_
        intro I105 v105 hI105 hv105
        obtain ⟨y105, rfl, hy105, hay105⟩ := hv105
        refine EL_s rfl rfl rfl (os_assign rfl) ?_
        refine EL_nil ?_
        refine EQ_then (EQ_wp ?_)
        refine EW_ret ?_
        exact pn_ret1 [_, _, _, _, _] Try.results72 (rv_tmp rfl) (hI101.trans hI105) (Incl.skip (Incl.skip (Incl.cons (Incl.cons (Incl.cons (Incl.cons (Incl.cons (Incl.refl _) _) _) _) _) _) _) _) ⟨(NodeAt.to (Node.mk xr.Term xr.Vote xr.Base xr.BaseTerm xr.Entries xr.id xr.n xr.limit xr.role xr.lead xr.commit xr.clock xr.votes xr.match_ (Sl.mk xr.next.h (xr.next.xs.set ((m.From).toNat) ((max x88 (min m.Index ((xr.abs).last))) + 1)))) (hora.mono (hI101.trans hI105)) (horb.mono (hI101.trans hI105)) (horc.mono (hI101.trans hI105)) (ho12_22.mono (hI101.trans hI105)) (by rw [NodeP.appended, if_neg (show ¬ xr.abs.Term < m.abs.Term from (by show ¬ xr.Term < m.Term; omega)), if_neg (show ¬ (¬ xr.abs.role = 3 ∨ ¬ m.abs.Term = xr.abs.Term) from (by show ¬ (¬ xr.role = 3 ∨ ¬ m.Term = xr.Term); omega)), if_neg (show ¬ m.abs.OK = true from (by show ¬ m.OK = true; simp [hc36]))]; simp only [hnd]; first | done | rfl | (rw [hay105, hay101]; rfl))), ⟨y105, rfl, (FRow.mono hy105 (.refl _) (.refl _)), (by rw [NodeP.appended, if_neg (show ¬ xr.abs.Term < m.abs.Term from (by show ¬ xr.Term < m.Term; omega)), if_neg (show ¬ (¬ xr.abs.role = 3 ∨ ¬ m.abs.Term = xr.abs.Term) from (by show ¬ (¬ xr.role = 3 ∨ ¬ m.Term = xr.Term); omega)), if_neg (show ¬ m.abs.OK = true from (by show ¬ m.OK = true; simp [hc36]))]; simp only [hnd]; first | done | rfl | (rw [hay105, hay101]; rfl))⟩⟩ (.inl rfl)


end Go.Proofs.Ytlhibbjnhdcffaa
