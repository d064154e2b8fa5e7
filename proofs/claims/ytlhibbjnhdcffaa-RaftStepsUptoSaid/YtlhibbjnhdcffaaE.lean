/- Proved here: the part E of the proof that the law of this seat returns true for every input; no condition. -/
import Derived.Test.YtlhibbjnhdcffaaW
import Derived.Test.YtlhibbjnhdcffaaD2
set_option maxRecDepth 20000
set_option linter.unusedVariables false
set_option linter.unusedSimpArgs false
namespace Go.Proofs.Ytlhibbjnhdcffaa
open Go Go.Gl

theorem s_Values {I : Gh} {L : List Seg} (s : Sl Nat) : PN Try.prog 130 #[s.v] I L ([]) fun K Ss' v => ∃ b, Ss' = [[(b, .cells #[s.v] 23)]] ∧ v = .func (.func 139) #[] #[.pointer (some ⟨b, 0, none⟩)] := by
  refine PN.of (n := 4) Try.func130 rfl Try.ntmps130 rfl fun I0 L0 hI0 hL0 => ?_
  refine EW_seq ?_
  -- region 0  iter.go:37
  refine EW_region ?_
  refine EL_a rfl rfl rfl (oa_box rfl) ?_
  intro b1
  refine EL_s rfl rfl rfl (os_assign rfl) ?_
  refine EL_nil ?_
  refine EQ_then (EQ_wp ?_)
  refine EW_seq ?_
  -- region 1  iter.go:38
  refine EW_region ?_
  refine EL_s rfl rfl rfl (os_makeFunc (us := []) (vs := [_]) rfl rfl) ?_
  refine EL_s rfl rfl rfl (os_assign rfl) ?_
  refine EL_nil ?_
  refine EQ_then (EQ_wp ?_)
  refine EW_ret ?_
  exact pn_ret1 [_] Try.results130 (rv_tmp rfl) (.refl _) (Incl.cons (Incl.refl _) _) ⟨_, rfl, rfl⟩ (.inl rfl)

theorem n_agree {I : Gh} {L : List Seg} {br : Nat} {r : NodeP} {Ssr : List Seg} (hr : NodeAt I br r Ssr) (hp0 : NodeP.Few r) (hp1 : (r.match_.length : Int) = r.n) : PN Try.prog 114 #[.pointer (some ⟨br, 0, none⟩)] I L (Ssr) fun K Ss' v => NodeAt K br (r.agree) Ss' ∧ v = .tuple #[] := by
  obtain ⟨xr, Sra, Srb, Src, Srd, rfl, rfl, hora, horb, horc, hord⟩ := hr
  refine PN.of (n := 50) Try.func114 rfl Try.ntmps114 rfl fun I0 L0 hI0 hL0 => ?_
  refine EW_perm (nm_5 _ _ _ _ _ _) ?_
  have hora := hora.mono hI0
  have horb := horb.mono hI0
  have horc := horc.mono hI0
  have hord := hord.mono hI0
  have hf0 := hp0
  obtain ⟨hfb, hfl, hft, hid0, hidn, hn5, hlim0, hlim1, hclk0, hclk1, hbt, htrm, hcmt⟩ := hf0
  simp only [Node.abs, List.length_map] at hfb hfl hft hid0 hidn hn5 hlim0 hlim1 hclk0 hclk1 hbt htrm hcmt
  have hltm := NodeP.lastTerm_le hp0
  have hlast : NodeP.last xr.abs = xr.Base + xr.Entries.xs.length := by simp [NodeP.last, Node.abs]
  simp only [Node.abs] at hp1
  refine EW_seq ?_
  -- region 0  raft.go:227
  refine EW_region ?_
  refine EL_s rfl rfl rfl (os_move rfl) ?_
  refine EL_s rfl rfl rfl (os_nilCheck rfl) ?_
  refine EL_s rfl rfl rfl (os_field rfl fl47_9) ?_
  refine EL_s rfl rfl rfl (os_load_one rfl one23 (cells_own own_head rfl)) ?_
  refine EL_x rfl rfl (ox_callN (vs := [(xr.match_.v)]) body130 rfl (Ss := []) (List.Perm.refl _) (s_Values xr.match_)) ?_
  rintro I10 L10 v10 hI10 ⟨Ss10, rfl, ⟨b10, rfl, rfl⟩⟩
  refine EL_perm (nm_1 _ _) ?_
  refine EL_x rfl rfl (ox_callN (vs := [_]) body129 rfl (Ss := []) (List.Perm.refl _) (s_Sorted own_head (OwnR.frow (horc.mono hI10) fun x hx => .inr (own_tail (own_tail (own_tail (own_tail (own_seg hx)))))) (by omega) (by omega))) ?_
  rintro I11 L11 v11 hI11 ⟨Ss11, rfl, ⟨y11, y11_, rfl, rfl, hy11, hay11⟩⟩
  refine EL_perm (nm_1 _ _) ?_
  have hly := hay11.1.length_eq
  have hys := NodeP.sorted_of hay11.1 hay11.2
  refine EL_s rfl rfl rfl (os_assign rfl) ?_
  refine EL_nil ?_
  refine EQ_then (EQ_wp ?_)
  refine EW_seq ?_
  -- region 1  raft.go:228
  refine EW_region ?_
  refine EL_s rfl rfl rfl (os_move rfl) ?_
  refine EL_s rfl rfl rfl (os_move rfl) ?_
  refine EL_s rfl rfl rfl (os_nilCheck rfl) ?_
  refine EL_s rfl rfl rfl (os_field rfl fl47_2) ?_
  refine EL_s rfl rfl rfl (os_load_one rfl one3 (cells_own (own_tail (own_tail own_head)) rfl)) ?_
  refine EL_s rfl rfl rfl (os_sub_in rfl rfl (IntWalk.i64_in _ (by omega))) ?_
  refine EL_s rfl rfl rfl (os_div rfl rfl rfl (by omega) (by omega) (IntWalk.i64_in _ (by omega))) ?_
  have hl19 := (show y11.h.n = y11.xs.length from OwnR.len hy11)
  obtain ⟨x19, hx19⟩ := get_some (l := y11.xs) (k := (((xr.n - 1) / 2)).toNat) (by first | omega | (simp only [List.length_set, List.length_replicate, List.length_cons, List.length_nil]; omega) | (simp <;> omega))
  refine EL_s rfl rfl rfl (os_at (m := y11.h.n) ((((xr.n - 1) / 2)).toNat) rfl rfl (by omega) sl23 (by omega) (by have hz_ := OwnR.some hy11 (by show 0 < y11.h.n; omega); exact hz_)) ?_
  have hk20 : x19 ≤ 18446744073709551615 := OwnR.okAt hy11 hx19
  refine EL_s rfl rfl rfl (os_load_one rfl one22 (FRow.whole (OwnR.frow hy11 fun x hx => .inr (own_seg hx)) hx19)) ?_
  have hix : (NodeP.sorted xr.abs.match_).getD ((xr.abs.n - 1) / 2).toNat 0 = x19 := by show (NodeP.sorted xr.match_.xs).getD _ 0 = _; rw [← hys]; simp only [List.getD, Node.abs]; rw [hx19]; rfl
  refine EL_s rfl rfl rfl (os_assign rfl) ?_
  refine EL_nil ?_
  refine EQ_then (EQ_wp ?_)
  refine EW_seq ?_
  -- region 2  raft.go:229
  refine EW_region ?_
  refine EL_s rfl rfl rfl (os_move rfl) ?_
  refine EL_s rfl rfl rfl (os_move rfl) ?_
  refine EL_s rfl rfl rfl (os_call (vs := [(.pointer (some ⟨br, 0, none⟩)), (.int .u64 ((x19 : Nat) : Int))]) body23 rfl (n_TermAt (NodeAt.intro xr (hora.mono (hI10.trans hI11)) (horb.mono (hI10.trans hI11)) (horc.mono (hI10.trans hI11)) (hord.mono (hI10.trans hI11))) (incl_mid [_, _] [_, _, _, _, _] _) x19 (by assumption))) ?_
  refine EL_s rfl rfl rfl (os_move rfl) ?_
  refine EL_s rfl rfl rfl (os_extract rfl rfl) ?_
  refine EL_s rfl rfl rfl (os_extract rfl rfl) ?_
  refine EL_s rfl rfl rfl (os_assign rfl) ?_
  refine EL_s rfl rfl rfl (os_assign rfl) ?_
  refine EL_nil ?_
  refine EQ_then (EQ_wp ?_)
  refine EW_seq ?_
  -- region 3  raft.go:229
  refine EW_region ?_
  refine EL_s rfl rfl rfl (os_move rfl) ?_
  refine EL_s rfl rfl rfl (os_move rfl) ?_
  refine EL_joint 9 37 (.bool ((((xr.abs).termAt x19).isSome) && (decide ((((((xr.abs).termAt x19).getD 0) : Nat) : Int) = ((xr.Term : Nat) : Int))))) ?_ ?_
  · skip
    refine ES_case (((xr.abs).termAt x19).isSome) (fun hg28 => ?_) (fun hg28 => ?_)
    · have hg28_ := hg28
      try simp only [Bool.or_eq_true, Bool.and_eq_true, Bool.or_eq_false_iff, Bool.and_eq_false_iff, decide_eq_true_eq, decide_eq_false_iff_not, Bool.not_eq_true', Bool.not_eq_false', Int.natCast_inj, Int.ofNat_lt, Int.ofNat_le] at hg28_
      refine ES_yes (j := 1) (b := true) rfl rfl rfl hg28 rfl rfl (os_move rfl) ?_
      refine ES_yes (j := 1) (b := true) rfl rfl rfl hg28 rfl rfl (os_move rfl) ?_
      refine ES_yes (j := 1) (b := true) rfl rfl rfl hg28 rfl rfl (os_nilCheck rfl) ?_
      refine ES_yes (j := 1) (b := true) rfl rfl rfl hg28 rfl rfl (os_field rfl fl47_0) ?_
      refine ES_yes (j := 1) (b := true) rfl rfl rfl hg28 rfl rfl (os_field rfl fl36_0) ?_
      refine ES_yes (j := 1) (b := true) rfl rfl rfl hg28 rfl rfl (os_field rfl fl33_0) ?_
      refine ES_yes (j := 1) (b := true) rfl rfl rfl hg28 rfl rfl (os_load_one rfl one22 (cells_own (own_tail (own_tail own_head)) rfl)) ?_
      refine ES_yes (j := 1) (b := true) rfl rfl rfl hg28 rfl rfl (os_eql rfl rfl) ?_
      refine ES_s rfl rfl rfl (os_pick_t' rfl hg28 rfl) ?_
      exact ES_fin 9 rfl rfl (by rw [hg28]; rfl)
    · have hg28_ := hg28
      try simp only [Bool.or_eq_true, Bool.and_eq_true, Bool.or_eq_false_iff, Bool.and_eq_false_iff, decide_eq_true_eq, decide_eq_false_iff_not, Bool.not_eq_true', Bool.not_eq_false', Int.natCast_inj, Int.ofNat_lt, Int.ofNat_le] at hg28_
      refine ES_no rfl hg28 rfl rfl rfl rfl ?_
      refine ES_no rfl hg28 rfl rfl rfl rfl ?_
      refine ES_no rfl hg28 rfl rfl rfl rfl ?_
      refine ES_no rfl hg28 rfl rfl rfl rfl ?_
      refine ES_no rfl hg28 rfl rfl rfl rfl ?_
      refine ES_no rfl hg28 rfl rfl rfl rfl ?_
      refine ES_no rfl hg28 rfl rfl rfl rfl ?_
      refine ES_no rfl hg28 rfl rfl rfl rfl ?_
      refine ES_s rfl rfl rfl (os_pick_f' rfl hg28 rfl) ?_
      exact ES_fin 9 rfl rfl (by rw [hg28]; rfl)
  refine EL_s rfl rfl rfl (os_move rfl) ?_
  refine EL_joint 7 45 (.bool (((((xr.abs).termAt x19).isSome) && (decide ((((((xr.abs).termAt x19).getD 0) : Nat) : Int) = ((xr.Term : Nat) : Int)))) && (decide (((xr.commit : Nat) : Int) < ((x19 : Nat) : Int))))) ?_ ?_
  · skip
    refine ES_case ((((xr.abs).termAt x19).isSome) && (decide ((((((xr.abs).termAt x19).getD 0) : Nat) : Int) = ((xr.Term : Nat) : Int)))) (fun hg38 => ?_) (fun hg38 => ?_)
    · have hg38_ := hg38
      try simp only [Bool.or_eq_true, Bool.and_eq_true, Bool.or_eq_false_iff, Bool.and_eq_false_iff, decide_eq_true_eq, decide_eq_false_iff_not, Bool.not_eq_true', Bool.not_eq_false', Int.natCast_inj, Int.ofNat_lt, Int.ofNat_le] at hg38_
      refine ES_yes (j := 11) (b := true) rfl rfl rfl hg38 rfl rfl (os_move rfl) ?_
      refine ES_yes (j := 11) (b := true) rfl rfl rfl hg38 rfl rfl (os_move rfl) ?_
      refine ES_yes (j := 11) (b := true) rfl rfl rfl hg38 rfl rfl (os_nilCheck rfl) ?_
      refine ES_yes (j := 11) (b := true) rfl rfl rfl hg38 rfl rfl (os_field rfl fl47_6) ?_
      refine ES_yes (j := 11) (b := true) rfl rfl rfl hg38 rfl rfl (os_load_one rfl one22 (cells_own (own_tail (own_tail own_head)) rfl)) ?_
      refine ES_yes (j := 11) (b := true) rfl rfl rfl hg38 rfl rfl (os_gtr rfl rfl) ?_
      refine ES_s rfl rfl rfl (os_pick_t' rfl hg38 rfl) ?_
      exact ES_fin 7 rfl rfl (by rw [hg38]; rfl)
    · have hg38_ := hg38
      try simp only [Bool.or_eq_true, Bool.and_eq_true, Bool.or_eq_false_iff, Bool.and_eq_false_iff, decide_eq_true_eq, decide_eq_false_iff_not, Bool.not_eq_true', Bool.not_eq_false', Int.natCast_inj, Int.ofNat_lt, Int.ofNat_le] at hg38_
      refine ES_no rfl hg38 rfl rfl rfl rfl ?_
      refine ES_no rfl hg38 rfl rfl rfl rfl ?_
      refine ES_no rfl hg38 rfl rfl rfl rfl ?_
      refine ES_no rfl hg38 rfl rfl rfl rfl ?_
      refine ES_no rfl hg38 rfl rfl rfl rfl ?_
      refine ES_no rfl hg38 rfl rfl rfl rfl ?_
      refine ES_s rfl rfl rfl (os_pick_f' rfl hg38 rfl) ?_
      exact ES_fin 7 rfl rfl (by rw [hg38]; rfl)
  refine EL_nil ?_
  refine EQ_then (EQ_wp ?_)
  refine EW_cond rfl (fun hc45 => ?_) (fun hc45 => ?_)
  · have hb45 := hc45
    try simp only [Bool.or_eq_true, Bool.and_eq_true, Bool.or_eq_false_iff, Bool.and_eq_false_iff, decide_eq_true_eq, decide_eq_false_iff_not, Bool.not_eq_true', Bool.not_eq_false', Int.natCast_inj, Int.ofNat_lt, Int.ofNat_le] at hc45
    -- region 4  raft.go:230
    refine EW_region ?_
    refine EL_s rfl rfl rfl (os_move rfl) ?_
    refine EL_s rfl rfl rfl (os_move rfl) ?_
    refine EL_s rfl rfl rfl (os_nilCheck rfl) ?_
    refine EL_s rfl rfl rfl (os_field rfl fl47_6) ?_
    refine EL_u rfl rfl (ox_store rfl rfl sz22 rfl (by rfl) (.tail (.tail (.head .head)))) ?_
    refine EL_nil ?_
    exact pn_ret0 [_, _, _, _, _] Try.results114  (hI10.trans hI11) (Incl.skip (Incl.skip (Incl.cons (Incl.cons (Incl.cons (Incl.cons (Incl.cons (Incl.refl _) _) _) _) _) _) _) _) ⟨(NodeAt.to (Node.mk xr.Term xr.Vote xr.Base xr.BaseTerm xr.Entries xr.id xr.n xr.limit xr.role xr.lead x19 xr.clock xr.votes xr.match_ xr.next) (hora.mono (hI10.trans hI11)) (horb.mono (hI10.trans hI11)) (horc.mono (hI10.trans hI11)) (hord.mono (hI10.trans hI11)) (by rw [NodeP.agree, hix]; exact (if_pos ⟨opt_eq hc45.1.1 hc45.1.2, hc45.2⟩).symm)), rfl⟩ (.inr rfl)
  · have hb45 := hc45
    try simp only [Bool.or_eq_true, Bool.and_eq_true, Bool.or_eq_false_iff, Bool.and_eq_false_iff, decide_eq_true_eq, decide_eq_false_iff_not, Bool.not_eq_true', Bool.not_eq_false', Int.natCast_inj, Int.ofNat_lt, Int.ofNat_le] at hc45
    refine EW_skip ?_
    exact pn_ret0 [_, _, _, _, _] Try.results114  (hI10.trans hI11) (Incl.skip (Incl.skip (Incl.cons (Incl.cons (Incl.cons (Incl.cons (Incl.cons (Incl.refl _) _) _) _) _) _) _) _) ⟨(NodeAt.to xr (hora.mono (hI10.trans hI11)) (horb.mono (hI10.trans hI11)) (horc.mono (hI10.trans hI11)) (hord.mono (hI10.trans hI11)) (by rw [NodeP.agree, hix]; refine (if_neg ?_).symm; rintro ⟨h1, h2⟩; have h3 : xr.commit < x19 := h2; rw [h1] at hc45; simp [Node.abs] at hc45; omega)), rfl⟩ (.inr rfl)

theorem n_add {I : Gh} {L : List Seg} {br : Nat} {r : NodeP} {Ssr : List Seg} (hr : NodeAt I br r Ssr) {data : Sl UInt8} (hdata : FRow rByte I L data) (hp0 : NodeP.Few r) (hp1 : (r.match_.length : Int) = r.n) (hp2 : (r.next.length : Int) = r.n) (hp3 : r.Entries.length < 1000000000) : PN Try.prog 84 #[.pointer (some ⟨br, 0, none⟩), data.v] I L (Ssr) fun K Ss' v => NodeAt K br ((r.add data.xs).1) Ss' ∧ (∃ (y0 : Sl Msg), v = y0.v ∧ FRow rMsg K [] y0 ∧ y0.xs.map Msg.abs = (r.add data.xs).2) := by
  obtain ⟨xr, Sra, Srb, Src, Srd, rfl, rfl, hora, horb, horc, hord⟩ := hr
  refine PN.of (n := 42) Try.func84 rfl Try.ntmps84 rfl fun I0 L0 hI0 hL0 => ?_
  refine EW_perm (nm_5 _ _ _ _ _ _) ?_
  have hora := hora.mono hI0
  have horb := horb.mono hI0
  have horc := horc.mono hI0
  have hord := hord.mono hI0
  have hdata := FRow.mono hdata hI0 hL0
  have hl_data := FRow.len hdata
  have hf_data := hdata.few
  simp only [rByte] at hf_data
  have hf0 := hp0
  obtain ⟨hfb, hfl, hft, hid0, hidn, hn5, hlim0, hlim1, hclk0, hclk1, hbt, htrm, hcmt⟩ := hf0
  simp only [Node.abs, List.length_map] at hfb hfl hft hid0 hidn hn5 hlim0 hlim1 hclk0 hclk1 hbt htrm hcmt
  have hltm := NodeP.lastTerm_le hp0
  have hlast : NodeP.last xr.abs = xr.Base + xr.Entries.xs.length := by simp [NodeP.last, Node.abs]
  simp only [Node.abs, List.length_map] at hp1 hp2 hp3
  refine EW_seq ?_
  -- region 0  raft.go:207
  refine EW_region ?_
  refine EL_s rfl rfl rfl (os_assign rfl) ?_
  refine EL_nil ?_
  refine EQ_then (EQ_wp ?_)
  refine EW_seq ?_
  -- region 1 DRAWN  raft.go:208
  refine EW_drawC [] [⟨[], some 5, [0], .r, 0⟩, ⟨[], some 6, [0], .r, 0⟩, ⟨[1], some 7, [6], .r, 2⟩, ⟨[2], some 8, [7], .r, 6⟩, ⟨[3], some 9, [8], .r, 14⟩, ⟨[4], some 10, [9], .s, 30⟩, ⟨[], some 11, [0], .r, 0⟩, ⟨[6], some 12, [11], .r, 64⟩, ⟨[7], some 13, [12], .r, 192⟩, ⟨[8], some 14, [13], .r, 448⟩, ⟨[9], some 15, [14], .r, 960⟩, ⟨[10], some 16, [15], .s, 1984⟩, ⟨[], some 17, [1], .r, 0⟩, ⟨[12], some 18, [17], .g, 4096⟩, ⟨[11, 13], some 19, [16, 18], .r, 16320⟩, ⟨[14], some 20, [19], .a, 32704⟩, ⟨[5, 15, 13], some 21, [10, 20], .y, 65534⟩, ⟨[0, 0, 1, 2, 3, 4, 5, 6, 7, 8, 9, 10, 11, 12, 13, 14, 15, 16], some 22, [5], .r, 131071⟩, ⟨[17, 0, 1, 2, 3, 4, 5, 6, 7, 8, 9, 10, 11, 12, 13, 14, 15, 16], some 23, [22], .r, 262143⟩, ⟨[18, 0, 1, 2, 3, 4, 5, 6, 7, 8, 9, 10, 11, 12, 13, 14, 15, 16], some 24, [23], .r, 524287⟩, ⟨[19, 16, 16, 0, 1, 2, 3, 4, 5, 6, 7, 8, 9, 10, 11, 12, 13, 14, 15, 16], none, [24, 21], .y, 1048575⟩] [.r, .r, .r, .r, .r, .s, .r, .r, .r, .r, .r, .s, .r, .g, .r, .a, .y, .r, .r, .r, .y] [0, 1, 2, 3, 4, 5, 6, 7, 8, 9, 10, 11, 12, 13, 14, 15, 16, 17, 18, 19, 20] mixed (by kernel_rfl) (by kernel_rfl) (by kernel_rfl) rfl rfl ?_
  refine EP_r rfl rfl rfl rfl rfl (Incl.nil _) (by exact (os_move rfl)) ?_
  refine EP_r rfl rfl rfl rfl rfl (Incl.nil _) (by exact (os_move rfl)) ?_
  refine EP_r rfl rfl rfl rfl rfl (Incl.nil _) (by exact (os_nilCheck rfl)) ?_
  refine EP_r rfl rfl rfl rfl rfl (Incl.nil _) (by exact (os_field rfl fl47_0)) ?_
  refine EP_r rfl rfl rfl rfl rfl (Incl.nil _) (by exact (os_field rfl fl36_3)) ?_
  refine EP_s rfl rfl rfl rfl rfl (by exact (os_load_one rfl one34 (cells_own own_head rfl))) ?_
  refine EP_r rfl rfl rfl rfl rfl (Incl.nil _) (by exact (os_move rfl)) ?_
  refine EP_r rfl rfl rfl rfl rfl (Incl.nil _) (by exact (os_nilCheck rfl)) ?_
  refine EP_r rfl rfl rfl rfl rfl (Incl.nil _) (by exact (os_field rfl fl47_0)) ?_
  refine EP_r rfl rfl rfl rfl rfl (Incl.nil _) (by exact (os_field rfl fl36_0)) ?_
  refine EP_r rfl rfl rfl rfl rfl (Incl.nil _) (by exact (os_field rfl fl33_0)) ?_
  refine EP_s rfl rfl rfl rfl rfl (by exact (os_load_one rfl one22 (cells_own own_head rfl))) ?_
  refine EP_r rfl rfl rfl rfl rfl (Incl.nil _) (by exact (os_move rfl)) ?_
  refine EP_g rfl rfl rfl rfl rfl (by exact (og_call (vs := [(data.v)]) body97 rfl (bytes_Clone (FRow.mono hdata (.refl _) ((((((Incl.refl _).skip _).skip _).skip _).skip _).skip _))))) ?_
  intro I18 v18 hI18 hv18
  obtain ⟨y18, rfl, hy18, hay18⟩ := hv18
  refine EP_r rfl rfl rfl rfl rfl (Incl.nil _) (by exact (os_struct (cs := [_, _]) [(0, _), (1, _)] pl125 z125 rfl rfl)) ?_
  have hr_y20_0 : Entry.Ok I18 (Entry.mk xr.Term y18) := ⟨(by first | omega | (dsimp only; omega)), (FRow.mono hy18 (.refl _) (.refl _))⟩
  refine EP_a rfl rfl rfl rfl rfl (by exact (oa_slice [_] sl34 z125 rfl rfl rfl rfl)) ?_
  intro b20
  have hob20 : OwnR rEntry I18 125 (Sl.mk (Hd.mk (some ⟨b20, 0, none⟩) 1 1) [(Entry.mk xr.Term y18)]) [(b20, .cells _ 125)] := OwnR.lit rfl rfl (by unfold maxLen; omega) (by decide) (fun x hx => by simp only [List.mem_cons, List.not_mem_nil, or_false] at hx; rcases hx with rfl <;> first | exact hr_y20_0)
  refine EP_k rfl rfl rfl rfl rfl (by exact (ox_app (R := rEntry) (bytes := 32) (s := xr.Entries) (s' := (Sl.mk (Hd.mk (some ⟨b20, 0, none⟩) 1 1) [(Entry.mk xr.Term y18)])) 2 rfl rfl rfl rfl sl34 z125 rfl (hora.mono hI18) (bk_2 _ _ _ _) (OwnR.frow hob20 fun x hx => .inr (own_seg hx)) (by first | omega | (simp only [List.length_cons, List.length_nil, Nat.zero_add]; omega)) (by unfold maxLen; first | omega | (simp only [List.length_cons, List.length_nil, Nat.zero_add]; omega)))) (fun _ _ _ => Incl.nil _) ?_
  rintro L21 v21 ⟨s21, S21, rfl, rfl, hx21, ho21⟩
  refine EP_perm (bk_2 _ _ _ _) ?_
  have hfew1 : NodeP.Few { xr.abs with Entries := s21.xs.map Entry.abs } := ⟨hp0.base, (by simp only [List.length_map, hx21, List.length_append, List.length_cons, List.length_nil]; omega), hp0.term, hp0.id0, hp0.idn, hp0.n5, hp0.lim0, hp0.lim1, hp0.clk0, hp0.clk1, hp0.bt, (by intro e he; simp only [hx21, List.map_append, List.mem_append] at he; rcases he with he | he; exact htrm e he; simp [Entry.abs] at he; subst he; exact hft), hp0.cmt⟩
  refine EP_r rfl rfl rfl rfl rfl (Incl.nil _) (by exact (os_nilCheck rfl)) ?_
  refine EP_r rfl rfl rfl rfl rfl (Incl.nil _) (by exact (os_field rfl fl47_0)) ?_
  refine EP_r rfl rfl rfl rfl rfl (Incl.nil _) (by exact (os_field rfl fl36_3)) ?_
  refine EP_ku rfl rfl rfl rfl (by exact (ox_store rfl rfl sz34 rfl (by rfl) (.tail (.head .head)))) (Incl.nil _) ?_
  refine EP_nil ?_
  refine EQ_then (EQ_wp ?_)
  refine EW_seq ?_
  -- region 2 DRAWN  raft.go:209
  refine EW_drawC [] [⟨[], some 25, [0], .s, 0⟩, ⟨[0], some 26, [25], .s, 1⟩, ⟨[1], some 27, [26], .s, 3⟩, ⟨[2], some 28, [27], .s, 7⟩, ⟨[], some 29, [0], .s, 0⟩, ⟨[4], some 30, [29], .s, 16⟩, ⟨[5], some 31, [30], .s, 48⟩, ⟨[6], some 32, [31], .s, 112⟩, ⟨[], some 33, [0], .s, 0⟩, ⟨[8], some 34, [33], .s, 256⟩, ⟨[3, 7, 0, 1, 2, 3, 4, 5, 6, 7, 8, 9], some 35, [28, 32], .s, 1023⟩, ⟨[10, 9, 9, 0, 1, 2, 3, 4, 5, 6, 7, 8, 9], none, [35, 34], .x, 2047⟩] [.s, .s, .s, .s, .s, .s, .s, .s, .s, .s, .s, .x] [0, 1, 2, 3, 4, 5, 6, 7, 8, 9, 10, 11] mixed (by kernel_rfl) (by kernel_rfl) (by kernel_rfl) rfl rfl ?_
  refine EP_s rfl rfl rfl rfl rfl (by exact (os_move rfl)) ?_
  refine EP_s rfl rfl rfl rfl rfl (by exact (os_nilCheck rfl)) ?_
  refine EP_s rfl rfl rfl rfl rfl (by exact (os_field rfl fl47_9)) ?_
  refine EP_s rfl rfl rfl rfl rfl (by exact (os_load_one rfl one23 (cells_own (own_tail own_head) rfl))) ?_
  refine EP_s rfl rfl rfl rfl rfl (by exact (os_move rfl)) ?_
  refine EP_s rfl rfl rfl rfl rfl (by exact (os_nilCheck rfl)) ?_
  refine EP_s rfl rfl rfl rfl rfl (by exact (os_field rfl fl47_1)) ?_
  refine EP_s rfl rfl rfl rfl rfl (by exact (os_load_one rfl one3 (cells_own (own_tail own_head) rfl))) ?_
  refine EP_s rfl rfl rfl rfl rfl (by exact (os_move rfl)) ?_
  refine EP_s rfl rfl rfl rfl rfl (by exact (os_call (vs := [(.pointer (some ⟨br, 0, none⟩))]) body14 rfl (n_Last (NodeAt.intro (Node.mk xr.Term xr.Vote xr.Base xr.BaseTerm s21 xr.id xr.n xr.limit xr.role xr.lead xr.commit xr.clock xr.votes xr.match_ xr.next) ho21 (horb.mono hI18) (horc.mono hI18) (hord.mono hI18)) (incl_mid [_] [_, _, _, _, _] _) (by exact hfew1)))) ?_
  have hq34 : NodeP.last (NodeP.mk xr.Term xr.Vote xr.Base xr.BaseTerm (s21.xs.map Entry.abs) xr.id xr.n xr.limit xr.role xr.lead xr.commit xr.clock xr.votes.xs xr.match_.xs xr.next.xs) = xr.Base + s21.xs.length := by simp [NodeP.last, Node.abs]
  have hq34b : s21.xs.length = xr.Entries.xs.length + 1 := by rw [hx21]; simp
  have hl35 := (show xr.match_.h.n = xr.match_.xs.length from OwnR.len horc)
  obtain ⟨x35, hx35⟩ := get_some (l := xr.match_.xs) (k := (xr.id).toNat) (by first | omega | (simp only [List.length_set, List.length_replicate, List.length_cons, List.length_nil]; omega) | (simp <;> omega))
  refine EP_s rfl rfl rfl rfl rfl (by exact (os_at (m := xr.match_.h.n) ((xr.id).toNat) rfl rfl (by omega) sl23 (by omega) (by have hz_ := OwnR.some horc (by show 0 < xr.match_.h.n; omega); exact hz_))) ?_
  refine EP_z rfl rfl rfl rfl (by exact (ox_set ((NodeP.mk xr.Term xr.Vote xr.Base xr.BaseTerm (s21.xs.map Entry.abs) xr.id xr.n xr.limit xr.role xr.lead xr.commit xr.clock xr.votes.xs xr.match_.xs xr.next.xs).last) rfl rfl sz22 rfl (horc.mono hI18) (by first | omega | (simp only [List.length_set, List.length_replicate, List.length_cons, List.length_nil]; omega) | (simp <;> omega)) (by simp only [rU64]; omega) (bk_4 _ _ _ _ _ _))) ?_
  rintro L2_11 v2_11 ⟨S2_11, rfl, ho2_11⟩
  refine EP_perm (bk_4 _ _ _ _ _ _) ?_
  have ho2_11 : OwnR rU64 I18 22 (Sl.mk xr.match_.h (xr.match_.xs.set ((xr.id).toNat) ((NodeP.mk xr.Term xr.Vote xr.Base xr.BaseTerm (s21.xs.map Entry.abs) xr.id xr.n xr.limit xr.role xr.lead xr.commit xr.clock xr.votes.xs xr.match_.xs xr.next.xs).last))) S2_11 := ho2_11
  refine EP_nil ?_
  refine EQ_then (EQ_wp ?_)
  refine EW_seq ?_
  -- region 3  raft.go:210
  refine EW_region ?_
  refine EL_s rfl rfl rfl (os_move rfl) ?_
  have hgrow : Node.abs (Node.mk xr.Term xr.Vote xr.Base xr.BaseTerm s21 xr.id xr.n xr.limit xr.role xr.lead xr.commit xr.clock xr.votes (Sl.mk xr.match_.h (xr.match_.xs.set ((xr.id).toNat) ((NodeP.mk xr.Term xr.Vote xr.Base xr.BaseTerm (s21.xs.map Entry.abs) xr.id xr.n xr.limit xr.role xr.lead xr.commit xr.clock xr.votes.xs xr.match_.xs xr.next.xs).last))) xr.next) = xr.abs.grow data.xs := by simp [NodeP.grow, NodeP.last, Node.abs, hx21, hay18, Entry.abs, Nat.add_assoc]
  refine EL_x rfl rfl (ox_callN (vs := [(.pointer (some ⟨br, 0, none⟩))]) body114 rfl (pl_1_5 _ _ _ _ _ _ _) (n_agree (NodeAt.intro (Node.mk xr.Term xr.Vote xr.Base xr.BaseTerm s21 xr.id xr.n xr.limit xr.role xr.lead xr.commit xr.clock xr.votes (Sl.mk xr.match_.h (xr.match_.xs.set ((xr.id).toNat) ((NodeP.mk xr.Term xr.Vote xr.Base xr.BaseTerm (s21.xs.map Entry.abs) xr.id xr.n xr.limit xr.role xr.lead xr.commit xr.clock xr.votes.xs xr.match_.xs xr.next.xs).last))) xr.next) ho21 (horb.mono hI18) ho2_11 (hord.mono hI18)) (by exact ⟨hfew1.base, hfew1.len, hfew1.term, hfew1.id0, hfew1.idn, hfew1.n5, hfew1.lim0, hfew1.lim1, hfew1.clk0, hfew1.clk1, hfew1.bt, hfew1.trm, hfew1.cmt⟩) (by simp only [Node.abs, List.length_set]; exact hp1))) ?_
  rintro I37 L37 v37 hI37 ⟨Ss37, rfl, ⟨x37, S37a, S37b, S37c, S37d, hx37, rfl, ho37a, ho37b, ho37c, ho37d⟩, rfl⟩
  refine EL_perm (nm_5 _ _ _ _ _ _) ?_
  rw [hgrow] at hx37
  have hf37 : x37.abs.Few := by rw [hx37, ← hgrow]; exact NodeP.Few.agree (by exact ⟨hfew1.base, hfew1.len, hfew1.term, hfew1.id0, hfew1.idn, hfew1.n5, hfew1.lim0, hfew1.lim1, hfew1.clk0, hfew1.clk1, hfew1.bt, hfew1.trm, hfew1.cmt⟩)
  have hn37 : (x37.abs.next.length : Int) = x37.abs.n := by rw [hx37, NodeP.agree_next, NodeP.agree_n]; exact hp2
  refine EL_nil ?_
  refine EQ_then (EQ_wp ?_)
  refine EW_seq ?_
  -- region 4  raft.go:211
  refine EW_region ?_
  refine EL_s rfl rfl rfl (os_move rfl) ?_
  refine EL_s rfl rfl rfl (os_move rfl) ?_
  refine EL_s rfl rfl rfl (os_makeFunc (us := [_]) (vs := []) rfl rfl) ?_
  refine EL_g rfl rfl rfl (og_call (vs := [(.pointer (some ⟨br, 0, none⟩)), _]) body73 rfl (n_others (NodeAt.intro x37 ho37a ho37b ho37c ho37d) (incl_mid [] [_, _, _, _, _] _) body74 (NodeP.send (Node.abs x37)) (fun k h0 h1 => n_send (NodeAt.intro x37 ho37a ho37b ho37c ho37d) (incl_mid [] [_, _, _, _, _] _) k hf37 ⟨h0, by have hz := hn37; have hz2 : k < (Node.abs x37).n := h1; omega⟩) (by exact hf37))) ?_
  intro I41 v41 hI41 hv41
  obtain ⟨y41, rfl, hy41, hay41⟩ := hv41
  refine EL_s rfl rfl rfl (os_assign rfl) ?_
  refine EL_nil ?_
  refine EQ_then (EQ_wp ?_)
  refine EW_ret ?_
  exact pn_ret1 [_, _, _, _, _] Try.results84 (rv_tmp rfl) (hI18.trans (hI37.trans hI41)) (Incl.cons (Incl.cons (Incl.cons (Incl.cons (Incl.cons (Incl.skip (Incl.refl _) _) _) _) _) _) _) ⟨(NodeAt.to x37 (ho37a.mono hI41) (ho37b.mono hI41) (ho37c.mono hI41) (ho37d.mono hI41) (by first | exact hx37 | (rw [hay41, hx37]; rfl))), ⟨y41, rfl, (FRow.mono hy41 (.refl _) (.refl _)), (by first | exact hx37 | (rw [hay41, hx37]; rfl))⟩⟩ (.inl rfl)

theorem n_begin {I : Gh} {L : List Seg} {br : Nat} {r : NodeP} {Ssr : List Seg} (hr : NodeAt I br r Ssr) (hp0 : NodeP.Few r) (hp1 : r.Entries.length < 1000000000) : PN Try.prog 111 #[.pointer (some ⟨br, 0, none⟩)] I L (Ssr) fun K Ss' v => NodeAt K br (r.begin.1) Ss' ∧ (∃ (y0 : Sl Msg), v = y0.v ∧ FRow rMsg K [] y0 ∧ y0.xs.map Msg.abs = r.begin.2) := by
  obtain ⟨xr, Sra, Srb, Src, Srd, rfl, rfl, hora, horb, horc, hord⟩ := hr
  refine PN.of (n := 50) Try.func111 rfl Try.ntmps111 rfl fun I0 L0 hI0 hL0 => ?_
  refine EW_perm (nm_5 _ _ _ _ _ _) ?_
  have hora := hora.mono hI0
  have horb := horb.mono hI0
  have horc := horc.mono hI0
  have hord := hord.mono hI0
  have hf0 := hp0
  obtain ⟨hfb, hfl, hft, hid0, hidn, hn5, hlim0, hlim1, hclk0, hclk1, hbt, htrm, hcmt⟩ := hf0
  simp only [Node.abs, List.length_map] at hfb hfl hft hid0 hidn hn5 hlim0 hlim1 hclk0 hclk1 hbt htrm hcmt
  have hltm := NodeP.lastTerm_le hp0
  have hlast : NodeP.last xr.abs = xr.Base + xr.Entries.xs.length := by simp [NodeP.last, Node.abs]
  simp only [Node.abs, List.length_map] at hp1
  refine EW_seq ?_
  -- region 0  raft.go:197
  refine EW_region ?_
  refine EL_s rfl rfl rfl (os_assign rfl) ?_
  refine EL_nil ?_
  refine EQ_then (EQ_wp ?_)
  refine EW_seq ?_
  -- region 1  raft.go:198
  refine EW_region ?_
  refine EL_s rfl rfl rfl (os_move rfl) ?_
  refine EL_s rfl rfl rfl (os_move rfl) ?_
  refine EL_s rfl rfl rfl (os_move rfl) ?_
  refine EL_s rfl rfl rfl (os_nilCheck rfl) ?_
  refine EL_s rfl rfl rfl (os_field rfl fl47_1) ?_
  refine EL_s rfl rfl rfl (os_load_one rfl one3 (cells_own own_head rfl)) ?_
  refine EL_s rfl rfl rfl (os_nilCheck rfl) ?_
  refine EL_s rfl rfl rfl (os_field rfl fl47_4) ?_
  refine EL_u rfl rfl (ox_store rfl rfl sz3 rfl (by rfl) (.head .head)) ?_
  refine EL_s rfl rfl rfl (os_nilCheck rfl) ?_
  refine EL_s rfl rfl rfl (os_field rfl fl47_5) ?_
  refine EL_u rfl rfl (ox_store rfl rfl sz3 rfl (by rfl) (.head .head)) ?_
  refine EL_nil ?_
  refine EQ_then (EQ_wp ?_)
  refine EW_seq ?_
  -- region 2 DRAWN  raft.go:199
  refine EW_drawC [] [⟨[], some 14, [0], .r, 0⟩, ⟨[], some 15, [0], .r, 0⟩, ⟨[], some 16, [0], .r, 0⟩, ⟨[2], some 17, [16], .r, 4⟩, ⟨[3], some 18, [17], .r, 12⟩, ⟨[4], some 19, [18], .s, 28⟩, ⟨[5, 5], some 20, [19, 19], .a, 60⟩, ⟨[], some 21, [0], .r, 0⟩, ⟨[7], some 22, [21], .r, 128⟩, ⟨[8], some 23, [22], .r, 384⟩, ⟨[9], some 24, [23], .s, 896⟩, ⟨[10, 10], some 25, [24, 24], .a, 1920⟩, ⟨[0, 0, 2, 3, 4, 5, 6, 10], some 26, [14], .r, 2045⟩, ⟨[12, 0, 2, 3, 4, 5, 6, 10], some 27, [26], .r, 6141⟩, ⟨[13, 6, 0, 2, 3, 4, 5, 6, 10], none, [27, 20], .y, 14333⟩, ⟨[1, 0, 1, 2, 3, 4, 5, 6, 7, 8, 9, 10, 11, 12, 13, 14], some 28, [15], .r, 32767⟩, ⟨[15, 0, 1, 2, 3, 4, 5, 6, 7, 8, 9, 10, 11, 12, 13, 14], some 29, [28], .r, 65535⟩, ⟨[16, 11, 14, 0, 1, 2, 3, 4, 5, 6, 7, 8, 9, 10, 11, 12, 13, 14], none, [29, 25], .y, 131071⟩] [.r, .r, .r, .r, .r, .s, .a, .r, .r, .r, .s, .a, .r, .r, .y, .r, .r, .y] [0, 1, 2, 3, 4, 5, 7, 8, 9, 10, 6, 12, 13, 14, 11, 15, 16, 17] mixed (by kernel_rfl) (by kernel_rfl) (by kernel_rfl) rfl rfl ?_
  refine EP_r rfl rfl rfl rfl rfl (Incl.nil _) (by exact (os_move rfl)) ?_
  refine EP_r rfl rfl rfl rfl rfl (Incl.nil _) (by exact (os_move rfl)) ?_
  refine EP_r rfl rfl rfl rfl rfl (Incl.nil _) (by exact (os_move rfl)) ?_
  refine EP_r rfl rfl rfl rfl rfl (Incl.nil _) (by exact (os_nilCheck rfl)) ?_
  refine EP_r rfl rfl rfl rfl rfl (Incl.nil _) (by exact (os_field rfl fl47_2)) ?_
  refine EP_s rfl rfl rfl rfl rfl (by exact (os_load_one rfl one3 (cells_own own_head rfl))) ?_
  refine EP_r rfl rfl rfl rfl rfl (Incl.nil _) (by exact (os_move rfl)) ?_
  refine EP_r rfl rfl rfl rfl rfl (Incl.nil _) (by exact (os_nilCheck rfl)) ?_
  refine EP_r rfl rfl rfl rfl rfl (Incl.nil _) (by exact (os_field rfl fl47_2)) ?_
  refine EP_s rfl rfl rfl rfl rfl (by exact (os_load_one rfl one3 (cells_own own_head rfl))) ?_
  refine EP_a rfl rfl rfl rfl rfl (by exact (oa_makeSlice ((xr.n).toNat) rfl rfl (by omega) sl23 z22 (by omega) (by unfold maxLen; omega))) ?_
  intro b20
  have hob20 : OwnR rU64 I0 22 (Sl.mk (Hd.mk (some ⟨b20, 0, none⟩) ((xr.n).toNat) ((xr.n).toNat)) (List.replicate ((xr.n).toNat) 0)) [(b20, .cells (madeCells (Value.cells (.int .u64 0)) (((xr.n).toNat) * 1)) 22)] := OwnR.made (z := (.int .u64 0)) 0 rfl (by simp [rU64]) (by unfold maxLen; omega) (by simp only [rU64]; omega)
  refine EP_r rfl rfl rfl rfl rfl (Incl.nil _) (by exact (os_nilCheck rfl)) ?_
  refine EP_r rfl rfl rfl rfl rfl (Incl.nil _) (by exact (os_field rfl fl47_9)) ?_
  refine EP_ku rfl rfl rfl rfl (by exact (ox_store rfl rfl sz23 rfl (by rfl) (.tail (.head .head)))) (Incl.nil _) ?_
  refine EP_a rfl rfl rfl rfl rfl (by exact (oa_makeSlice ((xr.n).toNat) rfl rfl (by omega) sl23 z22 (by omega) (by unfold maxLen; omega))) ?_
  intro b25
  have hob25 : OwnR rU64 I0 22 (Sl.mk (Hd.mk (some ⟨b25, 0, none⟩) ((xr.n).toNat) ((xr.n).toNat)) (List.replicate ((xr.n).toNat) 0)) [(b25, .cells (madeCells (Value.cells (.int .u64 0)) (((xr.n).toNat) * 1)) 22)] := OwnR.made (z := (.int .u64 0)) 0 rfl (by simp [rU64]) (by unfold maxLen; omega) (by simp only [rU64]; omega)
  refine EP_r rfl rfl rfl rfl rfl (Incl.nil _) (by exact (os_nilCheck rfl)) ?_
  refine EP_r rfl rfl rfl rfl rfl (Incl.nil _) (by exact (os_field rfl fl47_10)) ?_
  refine EP_ku rfl rfl rfl rfl (by exact (ox_store rfl rfl sz23 rfl (by rfl) (.tail (.tail (.head .head))))) (Incl.nil _) ?_
  refine EP_nil ?_
  refine EQ_then (EQ_wp ?_)
  refine EW_seq ?_
  refine EW_seq ?_
  -- region 3  raft.go:200
  refine EW_region ?_
  refine EL_s rfl rfl rfl (os_move rfl) ?_
  refine EL_s rfl rfl rfl (os_nilCheck rfl) ?_
  refine EL_s rfl rfl rfl (os_field rfl fl47_10) ?_
  refine EL_s rfl rfl rfl (os_load_one rfl one23 (cells_own (own_tail (own_tail own_head)) rfl)) ?_
  have hl34 := (show ((xr.n).toNat) = (List.replicate ((xr.n).toNat) 0).length from OwnR.len hob25)
  refine EL_s rfl rfl rfl (os_len rfl sl23) ?_
  refine EL_s rfl rfl rfl (os_move rfl) ?_
  refine EL_nil ?_
  refine EQ_then (EQ_wp ?_)
  refine EW_block ?_
  refine EW_loop (σ := Nat × (List Nat) × Seg) (fun ⟨k, ys, S⟩ => [(0, (.pointer (some ⟨br, 0, none⟩))), (34, (.int .i64 ((((xr.n).toNat) : Nat) : Int))), (35, (.int .i64 ((k : Nat) : Int)))]) (fun ⟨k, ys, S⟩ => I0) (fun ⟨k, ys, S⟩ => S :: [(b20, .cells (madeCells (Value.cells (.int .u64 0)) (((xr.n).toNat) * 1)) 22)] :: [(br, .cells #[(.int .u64 ((xr.Term : Nat) : Int)), (.int .i64 xr.Vote), (.int .u64 ((xr.Base : Nat) : Int)), (.int .u64 ((xr.BaseTerm : Nat) : Int)), (xr.Entries.v), (.int .i64 xr.id), (.int .i64 xr.n), (.int .i64 xr.limit), (.int .i64 3), (.int .i64 xr.id), (.int .u64 ((xr.commit : Nat) : Int)), (.int .i64 xr.clock), (xr.votes.v), ((Sl.mk (Hd.mk (some ⟨b20, 0, none⟩) ((xr.n).toNat) ((xr.n).toNat)) (List.replicate ((xr.n).toNat) 0)).v), ((Sl.mk (Hd.mk (some ⟨b25, 0, none⟩) (xr.n).toNat (xr.n).toNat) ys).v)] 47)] :: Sra :: Srb :: Src :: Srd :: L0) (fun ⟨k, ys, S⟩ => k ≤ (xr.n).toNat ∧ ys = List.replicate k (xr.Base + xr.Entries.xs.length + 1) ++ List.replicate ((xr.n).toNat - k) 0 ∧ OwnR rU64 I0 22 (Sl.mk (Hd.mk (some ⟨b25, 0, none⟩) (xr.n).toNat (xr.n).toNat) ys) S) (fun ⟨k, ys, S⟩ => (xr.n).toNat - k) (0, List.replicate (xr.n).toNat 0, [(b25, .cells (madeCells (Value.cells (.int .u64 0)) ((xr.n).toNat * 1)) 22)]) ⟨Nat.zero_le _, by simp, hob25⟩ ⟨rfl, rfl, rfl, trivial⟩ (fun w h => h) ?_
  rintro ⟨k, ys, S⟩ ⟨hk, hys, ho⟩
  have hyl : ys.length = (xr.n).toNat := by rw [hys]; simp; omega
  refine EW_seq ?_
  -- region 4  raft.go:200
  refine EW_region ?_
  refine EL_s rfl rfl rfl (os_lss rfl rfl) ?_
  refine EL_nil ?_
  refine EQ_then (EQ_wp ?_)
  refine EW_seq ?_
  refine EW_cond rfl (fun hc36 => ?_) (fun hc36 => ?_)
  · have hb36 := hc36
    try simp only [Bool.or_eq_true, Bool.and_eq_true, Bool.or_eq_false_iff, Bool.and_eq_false_iff, decide_eq_true_eq, decide_eq_false_iff_not, Bool.not_eq_true', Bool.not_eq_false', Int.natCast_inj, Int.ofNat_lt, Int.ofNat_le] at hc36
    refine EW_skip ?_
    refine EQ_then (EQ_wp ?_)
    refine EW_seq ?_
    refine EW_block ?_
    refine EW_seq ?_
    -- region 5  raft.go:200
    refine EW_region ?_
    refine EL_s rfl rfl rfl (os_move rfl) ?_
    refine EL_s rfl rfl rfl (os_assign rfl) ?_
    refine EL_nil ?_
    refine EQ_then (EQ_wp ?_)
    -- region 6 DRAWN  raft.go:201
    refine EW_drawC [] [⟨[], some 38, [0], .s, 0⟩, ⟨[0], some 39, [38], .s, 1⟩, ⟨[1], some 40, [39], .s, 3⟩, ⟨[2], some 41, [40], .s, 7⟩, ⟨[], some 42, [3], .s, 0⟩, ⟨[], some 43, [0], .s, 0⟩, ⟨[5], some 44, [43], .s, 32⟩, ⟨[6], some 45, [44], .s, 96⟩, ⟨[3, 4, 0, 1, 2, 3, 4, 5, 6, 7], some 46, [41, 42], .s, 255⟩, ⟨[8, 7, 6, 0, 1, 2, 3, 4, 5, 6, 7], none, [46, 45], .x, 511⟩] [.s, .s, .s, .s, .s, .s, .s, .s, .s, .x] [0, 1, 2, 3, 4, 5, 6, 7, 8, 9] mixed (by kernel_rfl) (by kernel_rfl) (by kernel_rfl) rfl rfl ?_
    refine EP_s rfl rfl rfl rfl rfl (by exact (os_move rfl)) ?_
    refine EP_s rfl rfl rfl rfl rfl (by exact (os_nilCheck rfl)) ?_
    refine EP_s rfl rfl rfl rfl rfl (by exact (os_field rfl fl47_10)) ?_
    refine EP_s rfl rfl rfl rfl rfl (by exact (os_load_one rfl one23 (cells_own (own_tail (own_tail own_head)) rfl))) ?_
    refine EP_s rfl rfl rfl rfl rfl (by exact (os_move rfl)) ?_
    refine EP_s rfl rfl rfl rfl rfl (by exact (os_move rfl)) ?_
    refine EP_perm (mv_1 _ _ _) ?_
    refine EP_perm (mv_4 _ _ _ _ _ _) ?_
    refine EP_perm (mv_4 _ _ _ _ _ _) ?_
    refine EP_perm (mv_4 _ _ _ _ _ _) ?_
    refine EP_s rfl rfl rfl rfl rfl (by exact (os_call (vs := [(.pointer (some ⟨br, 0, none⟩))]) body14 rfl (n_Last (NodeAt.intro (Node.mk xr.Term xr.Vote xr.Base xr.BaseTerm xr.Entries xr.id xr.n xr.limit 3 xr.id xr.commit xr.clock xr.votes (Sl.mk (Hd.mk (some ⟨b20, 0, none⟩) ((xr.n).toNat) ((xr.n).toNat)) (List.replicate ((xr.n).toNat) 0)) (Sl.mk (Hd.mk (some ⟨b25, 0, none⟩) (xr.n).toNat (xr.n).toNat) ys)) hora horb hob20 ho) (incl_mid [] [_, _, _, _, _] _) (by exact ⟨hp0.base, hp0.len, hp0.term, hp0.id0, hp0.idn, hp0.n5, hp0.lim0, hp0.lim1, hp0.clk0, hp0.clk1, hp0.bt, hp0.trm, hp0.cmt⟩)))) ?_
    have hq44 : NodeP.last (NodeP.mk xr.Term xr.Vote xr.Base xr.BaseTerm (xr.Entries.xs.map Entry.abs) xr.id xr.n xr.limit 3 xr.id xr.commit xr.clock xr.votes.xs (List.replicate ((xr.n).toNat) 0) ys) = xr.Base + xr.Entries.xs.length := by simp [NodeP.last, Node.abs]
    refine EP_s rfl rfl rfl rfl rfl (by exact (os_addn (p := ((NodeP.mk xr.Term xr.Vote xr.Base xr.BaseTerm (xr.Entries.xs.map Entry.abs) xr.id xr.n xr.limit 3 xr.id xr.commit xr.clock xr.votes.xs (List.replicate ((xr.n).toNat) 0) ys).last)) (q := 1) rfl rfl (IntWalk.u64_in _ (by omega)))) ?_
    have hl46 := (show (xr.n).toNat = ys.length from OwnR.len ho)
    obtain ⟨x46, hx46⟩ := get_some (l := ys) (k := k) (by first | omega | (simp only [List.length_set, List.length_replicate, List.length_cons, List.length_nil]; omega) | (simp <;> omega))
    refine EP_s rfl rfl rfl rfl rfl (by exact (os_at (m := (xr.n).toNat) (k) rfl rfl (by omega) sl23 (by omega) (by have hz_ := OwnR.some ho (by show 0 < (xr.n).toNat; omega); exact hz_))) ?_
    refine EP_z rfl rfl rfl rfl (by exact (ox_set (((NodeP.mk xr.Term xr.Vote xr.Base xr.BaseTerm (xr.Entries.xs.map Entry.abs) xr.id xr.n xr.limit 3 xr.id xr.commit xr.clock xr.votes.xs (List.replicate ((xr.n).toNat) 0) ys).last) + 1) rfl rfl sz22 rfl ho (by first | omega | (simp only [List.length_set, List.length_replicate, List.length_cons, List.length_nil]; omega) | (simp <;> omega)) (by simp only [rU64]; omega) (bk_4 _ _ _ _ _ _))) ?_
    rintro L6_9 v6_9 ⟨S6_9, rfl, ho6_9⟩
    refine EP_perm (bk_4 _ _ _ _ _ _) ?_
    have ho6_9 : OwnR rU64 I0 22 (Sl.mk (Hd.mk (some ⟨b25, 0, none⟩) (xr.n).toNat (xr.n).toNat) (ys.set k (((NodeP.mk xr.Term xr.Vote xr.Base xr.BaseTerm (xr.Entries.xs.map Entry.abs) xr.id xr.n xr.limit 3 xr.id xr.commit xr.clock xr.votes.xs (List.replicate ((xr.n).toNat) 0) ys).last) + 1))) S6_9 := ho6_9
    refine EP_nil ?_
    refine EQ_block_normal ?_
    refine EQ_then (EQ_wp ?_)
    -- region 7  raft.go:200
    refine EW_region ?_
    refine EL_s rfl rfl rfl (os_addn (p := k) (q := 1) rfl rfl (IntWalk.i64_in _ (by omega))) ?_
    refine EL_s rfl rfl rfl (os_move rfl) ?_
    refine EL_nil ?_
    refine EQ_perm (mv_6 _ _ _ _ _ _ _ _) ?_
    refine EQ_perm (mv_6 _ _ _ _ _ _ _ _) ?_
    refine EQ_perm (mv_4 _ _ _ _ _ _) ?_
    refine EQ_perm (mv_4 _ _ _ _ _ _) ?_
    refine EQ_perm (mv_4 _ _ _ _ _ _) ?_
    refine EQ_perm (mv_5 _ _ _ _ _ _ _) ?_
    refine EQ_perm (mv_6 _ _ _ _ _ _ _ _) ?_
    refine EQ_round ((k + 1), (ys.set k (((NodeP.mk xr.Term xr.Vote xr.Base xr.BaseTerm (xr.Entries.xs.map Entry.abs) xr.id xr.n xr.limit 3 xr.id xr.commit xr.clock xr.votes.xs (List.replicate ((xr.n).toNat) 0) ys).last) + 1)), S6_9) ?_ ?_ ?_ ?_
    · exact ⟨by omega, by rw [hq44, hys]; exact rep_step (by omega), ho6_9⟩
    · first | omega | (dsimp only; omega)
    · exact ⟨rfl, rfl, rfl, trivial⟩
    · exact fun w h => h.incl (Incl.cons (Incl.cons (Incl.cons (Incl.cons (Incl.cons (Incl.cons (Incl.cons (Incl.refl _) _) _) _) _) _) _) _)
  · have hb36 := hc36
    try simp only [Bool.or_eq_true, Bool.and_eq_true, Bool.or_eq_false_iff, Bool.and_eq_false_iff, decide_eq_true_eq, decide_eq_false_iff_not, Bool.not_eq_true', Bool.not_eq_false', Int.natCast_inj, Int.ofNat_lt, Int.ofNat_le] at hc36
    refine EW_exit ?_
    refine EQ_then_exit (EQ_then_exit (EQ_block_exit (?_)))
    refine EQ_then (EQ_wp ?_)
    refine EW_seq ?_
    -- region 8  raft.go:203
    refine EW_region ?_
    refine EL_s rfl rfl rfl (os_move rfl) ?_
    have hcrown : Node.abs (Node.mk xr.Term xr.Vote xr.Base xr.BaseTerm xr.Entries xr.id xr.n xr.limit 3 xr.id xr.commit xr.clock xr.votes (Sl.mk (Hd.mk (some ⟨b20, 0, none⟩) ((xr.n).toNat) ((xr.n).toNat)) (List.replicate ((xr.n).toNat) 0)) (Sl.mk (Hd.mk (some ⟨b25, 0, none⟩) (xr.n).toNat (xr.n).toNat) ys)) = xr.abs.crown := by rw [show k = (xr.n).toNat by omega] at hys; simp [NodeP.crown, NodeP.last, Node.abs, hys]
    refine EL_perm (mv_1 _ _ _) ?_
    refine EL_perm (mv_4 _ _ _ _ _ _) ?_
    refine EL_perm (mv_4 _ _ _ _ _ _) ?_
    refine EL_perm (mv_4 _ _ _ _ _ _) ?_
    refine EL_x rfl rfl (ox_callN (vs := [(.pointer (some ⟨br, 0, none⟩)), (Sl.mk (Hd.mk none 0 0) ([] : List UInt8)).v]) body84 rfl (pl_0_5 _ _ _ _ _ _) (n_add (NodeAt.intro (Node.mk xr.Term xr.Vote xr.Base xr.BaseTerm xr.Entries xr.id xr.n xr.limit 3 xr.id xr.commit xr.clock xr.votes (Sl.mk (Hd.mk (some ⟨b20, 0, none⟩) ((xr.n).toNat) ((xr.n).toNat)) (List.replicate ((xr.n).toNat) 0)) (Sl.mk (Hd.mk (some ⟨b25, 0, none⟩) (xr.n).toNat (xr.n).toNat) ys)) hora horb hob20 ho) (FRow.none rByte _ _) (by exact ⟨hp0.base, hp0.len, hp0.term, hp0.id0, hp0.idn, hp0.n5, hp0.lim0, hp0.lim1, hp0.clk0, hp0.clk1, hp0.bt, hp0.trm, hp0.cmt⟩) (by simp only [Node.abs, List.length_replicate]; omega) (by simp only [Node.abs]; omega) (by simp only [Node.abs, List.length_map]; omega) (data := (Sl.mk (Hd.mk none 0 0) ([] : List UInt8))))) ?_
    rintro I49 L49 v49 hI49 ⟨Ss49, rfl, ⟨x49, S49a, S49b, S49c, S49d, hx49, rfl, ho49a, ho49b, ho49c, ho49d⟩, ⟨y49, rfl, hy49, hay49⟩⟩
    refine EL_perm (nm_5 _ _ _ _ _ _) ?_
    rw [hcrown] at hx49 hay49
    refine EL_s rfl rfl rfl (os_assign rfl) ?_
    refine EL_nil ?_
    refine EQ_then (EQ_wp ?_)
    refine EW_ret ?_
    exact pn_ret1 [_, _, _, _, _] Try.results111 (rv_tmp rfl) hI49 (Incl.cons (Incl.cons (Incl.cons (Incl.cons (Incl.cons (Incl.skip (Incl.skip (Incl.refl _) _) _) _) _) _) _) _) ⟨(NodeAt.to x49 ho49a ho49b ho49c ho49d (by first | exact hx49 | exact hay49)), ⟨y49, rfl, (FRow.mono hy49 (.refl _) (.refl _)), (by first | exact hx49 | exact hay49)⟩⟩ (.inl rfl)


end Go.Proofs.Ytlhibbjnhdcffaa
