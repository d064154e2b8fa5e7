/- Proved here: the part F of the proof that the law of this seat returns true for every input; no condition. -/
import Derived.Test.YtlhibbjnhdcffaaE
set_option maxRecDepth 20000
set_option linter.unusedVariables false
set_option linter.unusedSimpArgs false
namespace Go.Proofs.Ytlhibbjnhdcffaa
open Go Go.Gl

namespace NodeP
theorem Few.rise {r : NodeP} (h : r.Few) (ht : r.Term < 4611686018427387904) : r.rise.Few := ⟨h.base, h.len, ht, h.id0, h.idn, h.n5, h.lim0, h.lim1, by show (0 : Int) ≤ 0; omega, by show (0 : Int) ≤ 2000; omega, h.bt, h.trm, h.cmt⟩
theorem Few.call {r : NodeP} (h : r.Few) (k : Int) (t : Nat) : (r.call k t).1.Few := ⟨h.base, h.len, h.term, h.id0, h.idn, h.n5, h.lim0, h.lim1, h.clk0, h.clk1, h.bt, h.trm, h.cmt⟩
theorem Few.follow {r : NodeP} (h : r.Few) {t : Nat} (ht : t ≤ 4611686018427387904) (l : Int) : (r.follow t l).Few := by
  unfold NodeP.follow
  split
  · exact ⟨h.base, h.len, ht, h.id0, h.idn, h.n5, h.lim0, h.lim1, h.clk0, h.clk1, h.bt, h.trm, h.cmt⟩
  · exact ⟨h.base, h.len, h.term, h.id0, h.idn, h.n5, h.lim0, h.lim1, h.clk0, h.clk1, h.bt, h.trm, h.cmt⟩
theorem follow_n (r : NodeP) (t : Nat) (l : Int) : (r.follow t l).n = r.n := by unfold NodeP.follow; split <;> rfl
theorem Few.newer {r : NodeP} (h : r.Few) {m : MsgP} (ht : m.Term ≤ 4611686018427387904) : (r.newer m).Few := by
  unfold NodeP.newer
  split
  · exact h.follow ht _
  · exact h
end NodeP
theorem n_stand {I : Gh} {L : List Seg} {br : Nat} {r : NodeP} {Ssr : List Seg} (hr : NodeAt I br r Ssr) (hp0 : NodeP.Few r) (hp1 : r.Entries.length < 1000000000) (hp2 : r.Term < 4611686018427387904) : PN Try.prog 75 #[.pointer (some ⟨br, 0, none⟩)] I L (Ssr) fun K Ss' v => NodeAt K br (r.stand.1) Ss' ∧ (∃ (y0 : Sl Msg), v = y0.v ∧ FRow rMsg K [] y0 ∧ y0.xs.map Msg.abs = r.stand.2) := by
  obtain ⟨xr, Sra, Srb, Src, Srd, rfl, rfl, hora, horb, horc, hord⟩ := hr
  refine PN.of (n := 46) Try.func75 rfl Try.ntmps75 rfl fun I0 L0 hI0 hL0 => ?_
  refine EW_perm (nm_5 _ _ _ _ _ _) ?_
  have hora := hora.mono hI0
  have horb := horb.mono hI0
  have horc := horc.mono hI0
  have hord := hord.mono hI0
  have hf0 := hp0
  obtain ⟨hfb, hfl, hft, hid0, hidn, hn5, hlim0, hlim1, hclk0, hclk1, hbt, htrm, hcmt⟩ := hf0
  simp only [Node.abs, List.length_map] at hfb hfl hft hid0 hidn hn5 hlim0 hlim1 hclk0 hclk1 hbt htrm hcmt
  have hltm := NodeP.lastTerm_le hp0
  have hlast : NodeP.last xr.abs = xr.Base + xr.Entries.xs.length := by simp [NodeP.last, Node.abs]
  simp only [Node.abs, List.length_map] at hp1 hp2
  have hfr : xr.abs.rise.Few := hp0.rise hp2
  refine EW_seq ?_
  -- region 0  raft.go:186
  refine EW_region ?_
  refine EL_s rfl rfl rfl (os_assign rfl) ?_
  refine EL_nil ?_
  refine EQ_then (EQ_wp ?_)
  refine EW_seq ?_
  -- region 1 DRAWN  raft.go:187
  refine EW_drawC [] [⟨[], some 4, [0], .s, 0⟩, ⟨[], some 5, [0], .s, 0⟩, ⟨[1], some 6, [5], .s, 2⟩, ⟨[2], some 7, [6], .s, 6⟩, ⟨[3], some 8, [7], .s, 14⟩, ⟨[4], some 9, [8], .s, 30⟩, ⟨[5], some 10, [9], .s, 62⟩, ⟨[6], some 11, [10], .s, 126⟩, ⟨[], some 12, [0], .s, 0⟩, ⟨[8], some 13, [12], .s, 256⟩, ⟨[9], some 14, [13], .s, 768⟩, ⟨[10], some 15, [14], .s, 1792⟩, ⟨[7, 11], some 16, [11, 15], .s, 4094⟩, ⟨[0, 0, 1, 2, 3, 4, 5, 6, 7, 8, 9, 10, 11, 12], some 17, [4], .s, 8191⟩, ⟨[13, 0, 1, 2, 3, 4, 5, 6, 7, 8, 9, 10, 11, 12], some 18, [17], .s, 16383⟩, ⟨[14, 0, 1, 2, 3, 4, 5, 6, 7, 8, 9, 10, 11, 12], some 19, [18], .s, 32767⟩, ⟨[15, 12, 0, 1, 2, 3, 4, 5, 6, 7, 8, 9, 10, 11, 12], none, [19, 16], .x, 65535⟩] [.s, .s, .s, .s, .s, .s, .s, .s, .s, .s, .s, .s, .s, .s, .s, .s, .x] [0, 1, 2, 3, 4, 5, 6, 7, 8, 9, 10, 11, 12, 13, 14, 15, 16] mixed (by kernel_rfl) (by kernel_rfl) (by kernel_rfl) rfl rfl ?_
  refine EP_s rfl rfl rfl rfl rfl (by exact (os_move rfl)) ?_
  refine EP_s rfl rfl rfl rfl rfl (by exact (os_move rfl)) ?_
  refine EP_s rfl rfl rfl rfl rfl (by exact (os_nilCheck rfl)) ?_
  refine EP_s rfl rfl rfl rfl rfl (by exact (os_field rfl fl47_0)) ?_
  refine EP_s rfl rfl rfl rfl rfl (by exact (os_field rfl fl36_0)) ?_
  refine EP_s rfl rfl rfl rfl rfl (by exact (os_field rfl fl33_0)) ?_
  refine EP_s rfl rfl rfl rfl rfl (by exact (os_load_one rfl one22 (cells_own own_head rfl))) ?_
  refine EP_s rfl rfl rfl rfl rfl (by exact (os_addn (p := xr.Term) (q := 1) rfl rfl (IntWalk.u64_in _ (by omega)))) ?_
  refine EP_s rfl rfl rfl rfl rfl (by exact (os_move rfl)) ?_
  refine EP_s rfl rfl rfl rfl rfl (by exact (os_nilCheck rfl)) ?_
  refine EP_s rfl rfl rfl rfl rfl (by exact (os_field rfl fl47_1)) ?_
  refine EP_s rfl rfl rfl rfl rfl (by exact (os_load_one rfl one3 (cells_own own_head rfl))) ?_
  refine EP_s rfl rfl rfl rfl rfl (by exact (os_struct (cs := [_, _]) [(0, _), (1, _)] pl33 z33 rfl rfl)) ?_
  refine EP_s rfl rfl rfl rfl rfl (by exact (os_nilCheck rfl)) ?_
  refine EP_s rfl rfl rfl rfl rfl (by exact (os_field rfl fl47_0)) ?_
  refine EP_s rfl rfl rfl rfl rfl (by exact (os_field rfl fl36_0)) ?_
  refine EP_u rfl rfl rfl rfl (by exact (ox_store rfl rfl sz33 rfl (by rfl) (.head .head))) ?_
  refine EP_nil ?_
  refine EQ_then (EQ_wp ?_)
  refine EW_seq ?_
  -- region 2  raft.go:188
  refine EW_region ?_
  refine EL_s rfl rfl rfl (os_move rfl) ?_
  refine EL_s rfl rfl rfl (os_move rfl) ?_
  refine EL_s rfl rfl rfl (os_move rfl) ?_
  refine EL_s rfl rfl rfl (os_nilCheck rfl) ?_
  refine EL_s rfl rfl rfl (os_field rfl fl47_4) ?_
  refine EL_u rfl rfl (ox_store rfl rfl sz3 rfl (by rfl) (.head .head)) ?_
  refine EL_s rfl rfl rfl (os_nilCheck rfl) ?_
  refine EL_s rfl rfl rfl (os_field rfl fl47_5) ?_
  refine EL_u rfl rfl (ox_store rfl rfl sz3 rfl (by rfl) (.head .head)) ?_
  refine EL_s rfl rfl rfl (os_nilCheck rfl) ?_
  refine EL_s rfl rfl rfl (os_field rfl fl47_7) ?_
  refine EL_u rfl rfl (ox_store rfl rfl sz3 rfl (by rfl) (.head .head)) ?_
  refine EL_nil ?_
  refine EQ_then (EQ_wp ?_)
  refine EW_seq ?_
  -- region 3  raft.go:189
  refine EW_region ?_
  refine EL_s rfl rfl rfl (os_move rfl) ?_
  refine EL_s rfl rfl rfl (os_move rfl) ?_
  refine EL_s rfl rfl rfl (os_nilCheck rfl) ?_
  refine EL_s rfl rfl rfl (os_field rfl fl47_0) ?_
  refine EL_s rfl rfl rfl (os_field rfl fl36_0) ?_
  refine EL_s rfl rfl rfl (os_field rfl fl33_0) ?_
  refine EL_s rfl rfl rfl (os_load_one rfl one22 (cells_own own_head rfl)) ?_
  have hrise : Node.abs (Node.mk (xr.Term + 1) xr.id xr.Base xr.BaseTerm xr.Entries xr.id xr.n xr.limit 2 (-1) xr.commit 0 xr.votes xr.match_ xr.next) = xr.abs.rise := rfl
  refine EL_x rfl rfl (ox_callN (vs := [(.pointer (some ⟨br, 0, none⟩)), (.int .i64 3), (.int .u64 (((xr.Term + 1) : Nat) : Int))]) body76 rfl (pl_0_5 _ _ _ _ _ _) (n_call (NodeAt.intro (Node.mk (xr.Term + 1) xr.id xr.Base xr.BaseTerm xr.Entries xr.id xr.n xr.limit 2 (-1) xr.commit 0 xr.votes xr.match_ xr.next) hora horb horc hord) 3 (xr.Term + 1) (by exact hfr) (by omega) (by omega))) ?_
  rintro I36 L36 v36 hI36 ⟨Ss36, rfl, ⟨x36, S36a, S36b, S36c, S36d, hx36, rfl, ho36a, ho36b, ho36c, ho36d⟩, ⟨y36, rfl, hy36, hay36⟩⟩
  refine EL_perm (nm_5 _ _ _ _ _ _) ?_
  rw [hrise] at hx36 hay36
  have hf36 : x36.abs.Few := by rw [hx36]; exact hfr.call _ _
  have hl36 : x36.abs.Entries.length < 1000000000 := by rw [hx36]; show (xr.Entries.xs.map Entry.abs).length < _; rw [List.length_map]; exact hp1
  refine EL_s rfl rfl rfl (os_assign rfl) ?_
  refine EL_nil ?_
  refine EQ_then (EQ_wp ?_)
  refine EW_seq ?_
  refine EW_seq ?_
  -- region 4  raft.go:190
  refine EW_region ?_
  refine EL_s rfl rfl rfl (os_move rfl) ?_
  refine EL_s rfl rfl rfl (os_move rfl) ?_
  refine EL_s rfl rfl rfl (os_nilCheck rfl) ?_
  refine EL_s rfl rfl rfl (os_field rfl fl47_8) ?_
  refine EL_s rfl rfl rfl (os_load_one rfl one45 (cells_own own_head rfl)) ?_
  refine EL_s rfl rfl rfl (os_call (vs := [(.pointer (some ⟨br, 0, none⟩)), (x36.votes.v)]) body110 rfl (n_most (NodeAt.intro x36 ho36a ho36b ho36c ho36d) (incl_mid [] [_, _, _, _, _] _) (OwnR.frow ho36b fun x hx => .inr (own_tail (own_tail (own_seg hx)))))) ?_
  refine EL_nil ?_
  refine EQ_then (EQ_wp ?_)
  refine EW_cond rfl (fun hc42 => ?_) (fun hc42 => ?_)
  · have hb42 := hc42
    try simp only [Bool.or_eq_true, Bool.and_eq_true, Bool.or_eq_false_iff, Bool.and_eq_false_iff, decide_eq_true_eq, decide_eq_false_iff_not, Bool.not_eq_true', Bool.not_eq_false', Int.natCast_inj, Int.ofNat_lt, Int.ofNat_le] at hc42
    refine EW_seq ?_
    -- region 5  raft.go:191
    refine EW_region ?_
    refine EL_s rfl rfl rfl (os_move rfl) ?_
    refine EL_x rfl rfl (ox_callN (vs := [(.pointer (some ⟨br, 0, none⟩))]) body111 rfl (pl_0_5 _ _ _ _ _ _) (n_begin (NodeAt.intro x36 ho36a ho36b ho36c ho36d) (by exact hf36) (by exact hl36))) ?_
    rintro I44 L44 v44 hI44 ⟨Ss44, rfl, ⟨x44, S44a, S44b, S44c, S44d, hx44, rfl, ho44a, ho44b, ho44c, ho44d⟩, ⟨y44, rfl, hy44, hay44⟩⟩
    refine EL_perm (nm_5 _ _ _ _ _ _) ?_
    have hst : xr.abs.stand = x36.abs.begin := by rw [NodeP.stand]; rw [show xr.abs.rise.call 3 (xr.abs.Term + 1) = xr.abs.rise.call 3 (xr.Term + 1) from rfl, ← hx36]; exact if_pos hb42
    rw [← hst] at hx44 hay44
    refine EL_s rfl rfl rfl (os_assign rfl) ?_
    refine EL_nil ?_
    refine EQ_then (EQ_wp ?_)
    refine EW_ret ?_
    refine EQ_then_ret (?_)
    exact pn_ret1 [_, _, _, _, _] Try.results75 (rv_tmp rfl) (hI36.trans hI44) (Incl.cons (Incl.cons (Incl.cons (Incl.cons (Incl.cons (Incl.refl _) _) _) _) _) _) ⟨(NodeAt.to x44 ho44a ho44b ho44c ho44d (by first | exact hx44 | exact hay44 | exact hx36 | exact hay36)), ⟨y44, rfl, (FRow.mono hy44 (.refl _) (.refl _)), (by first | exact hx44 | exact hay44 | exact hx36 | exact hay36)⟩⟩ (.inl rfl)
  · have hb42 := hc42
    try simp only [Bool.or_eq_true, Bool.and_eq_true, Bool.or_eq_false_iff, Bool.and_eq_false_iff, decide_eq_true_eq, decide_eq_false_iff_not, Bool.not_eq_true', Bool.not_eq_false', Int.natCast_inj, Int.ofNat_lt, Int.ofNat_le] at hc42
    refine EW_skip ?_
    refine EQ_then (EQ_wp ?_)
    refine EW_seq ?_
    -- region 6  raft.go:193
    refine EW_region ?_
    have hst : xr.abs.stand = xr.abs.rise.call 3 (xr.Term + 1) := by rw [NodeP.stand]; rw [show xr.abs.rise.call 3 (xr.abs.Term + 1) = xr.abs.rise.call 3 (xr.Term + 1) from rfl, ← hx36]; exact if_neg (by rw [show x36.abs.most x36.abs.votes = false from hb42]; decide)
    rw [← hst] at hx36 hay36
    refine EL_s rfl rfl rfl (os_move rfl) ?_
    refine EL_s rfl rfl rfl (os_assign rfl) ?_
    refine EL_nil ?_
    refine EQ_then (EQ_wp ?_)
    refine EW_ret ?_
    exact pn_ret1 [_, _, _, _, _] Try.results75 (rv_tmp rfl) hI36 (Incl.cons (Incl.cons (Incl.cons (Incl.cons (Incl.cons (Incl.refl _) _) _) _) _) _) ⟨(NodeAt.to x36 ho36a ho36b ho36c ho36d (by first | exact hx44 | exact hay44 | exact hx36 | exact hay36)), ⟨y36, rfl, (FRow.mono hy36 (.refl _) (.refl _)), (by first | exact hx44 | exact hay44 | exact hx36 | exact hay36)⟩⟩ (.inl rfl)

theorem n_Tick {I : Gh} {L : List Seg} {br : Nat} {r : NodeP} {Ssr : List Seg} (hr : NodeAt I br r Ssr) (hp0 : NodeP.Few r) (hp1 : r.Entries.length < 1000000000) (hp2 : r.role = 3 → (r.next.length : Int) = r.n) : PN Try.prog 19 #[.pointer (some ⟨br, 0, none⟩)] I L (Ssr) fun K Ss' v => NodeAt K br (r.tick.1) Ss' ∧ (∃ (y0 : Sl Msg), v = y0.v ∧ FRow rMsg K [] y0 ∧ y0.xs.map Msg.abs = r.tick.2) := by
  obtain ⟨xr, Sra, Srb, Src, Srd, rfl, rfl, hora, horb, horc, hord⟩ := hr
  refine PN.of (n := 65) Try.func19 rfl Try.ntmps19 rfl fun I0 L0 hI0 hL0 => ?_
  refine EW_perm (nm_5 _ _ _ _ _ _) ?_
  have hora := hora.mono hI0
  have horb := horb.mono hI0
  have horc := horc.mono hI0
  have hord := hord.mono hI0
  have hf0 := hp0
  obtain ⟨hfb, hfl, hft, hid0, hidn, hn5, hlim0, hlim1, hclk0, hclk1, hbt, htrm, hcmt⟩ := hf0
  simp only [Node.abs, List.length_map] at hfb hfl hft hid0 hidn hn5 hlim0 hlim1 hclk0 hclk1 hbt htrm hcmt
  have hltm := NodeP.lastTerm_le hp0
  have hlast : NodeP.last xr.abs = xr.Base + xr.Entries.xs.length := by simp [NodeP.last, Node.abs]
  simp only [Node.abs, List.length_map] at hp1
  simp only [Node.abs] at hp2
  refine EW_seq ?_
  -- region 0  raft.go:235
  refine EW_region ?_
  refine EL_s rfl rfl rfl (os_assign rfl) ?_
  refine EL_nil ?_
  refine EQ_then (EQ_wp ?_)
  refine EW_seq ?_
  refine EW_seq ?_
  -- region 1  raft.go:236
  refine EW_region ?_
  refine EL_s rfl rfl rfl (os_move rfl) ?_
  refine EL_s rfl rfl rfl (os_nilCheck rfl) ?_
  refine EL_s rfl rfl rfl (os_field rfl fl47_4) ?_
  refine EL_s rfl rfl rfl (os_load_one rfl one3 (cells_own own_head rfl)) ?_
  refine EL_s rfl rfl rfl (os_eql rfl rfl) ?_
  refine EL_nil ?_
  refine EQ_then (EQ_wp ?_)
  refine EW_cond rfl (fun hc7 => ?_) (fun hc7 => ?_)
  · have hb7 := hc7
    try simp only [Bool.or_eq_true, Bool.and_eq_true, Bool.or_eq_false_iff, Bool.and_eq_false_iff, decide_eq_true_eq, decide_eq_false_iff_not, Bool.not_eq_true', Bool.not_eq_false', Int.natCast_inj, Int.ofNat_lt, Int.ofNat_le] at hc7
    refine EW_seq ?_
    -- region 2  raft.go:237
    refine EW_region ?_
    refine EL_s rfl rfl rfl (os_move rfl) ?_
    refine EL_s rfl rfl rfl (os_move rfl) ?_
    refine EL_s rfl rfl rfl (os_makeFunc (us := [_]) (vs := []) rfl rfl) ?_
    refine EL_g rfl rfl rfl (og_call (vs := [(.pointer (some ⟨br, 0, none⟩)), _]) body73 rfl (n_others (NodeAt.intro xr hora horb horc hord) (incl_mid [] [_, _, _, _, _] _) body74 (NodeP.send (Node.abs xr)) (fun k h0 h1 => n_send (NodeAt.intro xr hora horb horc hord) (incl_mid [] [_, _, _, _, _] _) k hp0 ⟨h0, by have hz := (show (xr.abs.next.length : Int) = xr.abs.n from hp2 hc7); have hz2 : k < (Node.abs xr).n := h1; omega⟩) (by exact hp0))) ?_
    intro I11 v11 hI11 hv11
    obtain ⟨y11, rfl, hy11, hay11⟩ := hv11
    refine EL_s rfl rfl rfl (os_assign rfl) ?_
    refine EL_nil ?_
    refine EQ_then (EQ_wp ?_)
    refine EW_ret ?_
    refine EQ_then_ret (?_)
    exact pn_ret1 [_, _, _, _, _] Try.results19 (rv_tmp rfl) hI11 (Incl.cons (Incl.cons (Incl.cons (Incl.cons (Incl.cons (Incl.refl _) _) _) _) _) _) ⟨(NodeAt.to xr (hora.mono hI11) (horb.mono hI11) (horc.mono hI11) (hord.mono hI11) (by rw [NodeP.tick, if_pos (show xr.abs.role = 3 from hc7)]; first | done | rfl | exact hay11)), ⟨y11, rfl, (FRow.mono hy11 (.refl _) (.refl _)), (by rw [NodeP.tick, if_pos (show xr.abs.role = 3 from hc7)]; first | done | rfl | exact hay11)⟩⟩ (.inl rfl)
  · have hb7 := hc7
    try simp only [Bool.or_eq_true, Bool.and_eq_true, Bool.or_eq_false_iff, Bool.and_eq_false_iff, decide_eq_true_eq, decide_eq_false_iff_not, Bool.not_eq_true', Bool.not_eq_false', Int.natCast_inj, Int.ofNat_lt, Int.ofNat_le] at hc7
    refine EW_skip ?_
    refine EQ_then (EQ_wp ?_)
    refine EW_seq ?_
    -- region 3  raft.go:239
    refine EW_region ?_
    refine EL_s rfl rfl rfl (os_move rfl) ?_
    refine EL_s rfl rfl rfl (os_nilCheck rfl) ?_
    refine EL_s rfl rfl rfl (os_field rfl fl47_7) ?_
    refine EL_s rfl rfl rfl (os_load_one rfl one3 (cells_own own_head rfl)) ?_
    refine EL_s rfl rfl rfl (os_add_in rfl rfl (IntWalk.i64_in _ (by omega))) ?_
    refine EL_s rfl rfl rfl (os_nilCheck rfl) ?_
    refine EL_s rfl rfl rfl (os_field rfl fl47_7) ?_
    refine EL_u rfl rfl (ox_store rfl rfl sz3 rfl (by rfl) (.head .head)) ?_
    refine EL_nil ?_
    refine EQ_then (EQ_wp ?_)
    refine EW_seq ?_
    refine EW_seq ?_
    -- region 4 DRAWN  raft.go:240
    refine EW_drawC [] [⟨[], some 19, [0], .s, 0⟩, ⟨[0], some 20, [19], .s, 1⟩, ⟨[1], some 21, [20], .s, 3⟩, ⟨[2], some 22, [21], .s, 7⟩, ⟨[], some 23, [0], .s, 0⟩, ⟨[4], some 24, [23], .s, 16⟩, ⟨[5], some 25, [24], .s, 48⟩, ⟨[6], some 26, [25], .s, 112⟩, ⟨[], some 27, [0], .s, 0⟩, ⟨[8], some 28, [27], .s, 256⟩, ⟨[9], some 29, [28], .s, 768⟩, ⟨[10], some 30, [29], .s, 1792⟩, ⟨[7, 11], some 31, [26, 30], .s, 4080⟩, ⟨[3, 12], some 32, [22, 31], .s, 8191⟩] [.s, .s, .s, .s, .s, .s, .s, .s, .s, .s, .s, .s, .s, .s] [0, 1, 2, 3, 4, 5, 6, 7, 8, 9, 10, 11, 12, 13] mixed (by kernel_rfl) (by kernel_rfl) (by kernel_rfl) rfl rfl ?_
    refine EP_s rfl rfl rfl rfl rfl (by exact (os_move rfl)) ?_
    refine EP_s rfl rfl rfl rfl rfl (by exact (os_nilCheck rfl)) ?_
    refine EP_s rfl rfl rfl rfl rfl (by exact (os_field rfl fl47_7)) ?_
    refine EP_s rfl rfl rfl rfl rfl (by exact (os_load_one rfl one3 (cells_own own_head rfl))) ?_
    refine EP_s rfl rfl rfl rfl rfl (by exact (os_move rfl)) ?_
    refine EP_s rfl rfl rfl rfl rfl (by exact (os_nilCheck rfl)) ?_
    refine EP_s rfl rfl rfl rfl rfl (by exact (os_field rfl fl47_3)) ?_
    refine EP_s rfl rfl rfl rfl rfl (by exact (os_load_one rfl one3 (cells_own own_head rfl))) ?_
    refine EP_s rfl rfl rfl rfl rfl (by exact (os_move rfl)) ?_
    refine EP_s rfl rfl rfl rfl rfl (by exact (os_nilCheck rfl)) ?_
    refine EP_s rfl rfl rfl rfl rfl (by exact (os_field rfl fl47_1)) ?_
    refine EP_s rfl rfl rfl rfl rfl (by exact (os_load_one rfl one3 (cells_own own_head rfl))) ?_
    refine EP_s rfl rfl rfl rfl rfl (by exact (os_add_in rfl rfl (IntWalk.i64_in _ (by omega)))) ?_
    refine EP_s rfl rfl rfl rfl rfl (by exact (os_lss rfl rfl)) ?_
    refine EP_nil ?_
    refine EQ_then (EQ_wp ?_)
    refine EW_cond rfl (fun hc32 => ?_) (fun hc32 => ?_)
    · have hb32 := hc32
      try simp only [Bool.or_eq_true, Bool.and_eq_true, Bool.or_eq_false_iff, Bool.and_eq_false_iff, decide_eq_true_eq, decide_eq_false_iff_not, Bool.not_eq_true', Bool.not_eq_false', Int.natCast_inj, Int.ofNat_lt, Int.ofNat_le] at hc32
      refine EW_seq ?_
      -- region 5  raft.go:241
      refine EW_region ?_
      refine EL_s rfl rfl rfl (os_assign rfl) ?_
      refine EL_nil ?_
      refine EQ_then (EQ_wp ?_)
      refine EW_ret ?_
      refine EQ_then_ret (?_)
      exact pn_ret1 [_, _, _, _, _] Try.results19 (rv_tmp rfl) (.refl _) (Incl.cons (Incl.cons (Incl.cons (Incl.cons (Incl.cons (Incl.refl _) _) _) _) _) _) ⟨(NodeAt.to (Node.mk xr.Term xr.Vote xr.Base xr.BaseTerm xr.Entries xr.id xr.n xr.limit xr.role xr.lead xr.commit (xr.clock + 1) xr.votes xr.match_ xr.next) hora horb horc hord (by rw [NodeP.tick, if_neg (show ¬ xr.abs.role = 3 from hc7), if_pos (show xr.abs.clock + 1 < xr.abs.limit + xr.abs.id from hc32)]; first | done | rfl | exact hay11 | exact hx11)), ⟨(Sl.mk (Hd.mk none 0 0) []), rfl, (FRow.none _ _ _), (by rw [NodeP.tick, if_neg (show ¬ xr.abs.role = 3 from hc7), if_pos (show xr.abs.clock + 1 < xr.abs.limit + xr.abs.id from hc32)]; first | done | rfl | exact hay11 | exact hx11)⟩⟩ (.inl rfl)
    · have hb32 := hc32
      try simp only [Bool.or_eq_true, Bool.and_eq_true, Bool.or_eq_false_iff, Bool.and_eq_false_iff, decide_eq_true_eq, decide_eq_false_iff_not, Bool.not_eq_true', Bool.not_eq_false', Int.natCast_inj, Int.ofNat_lt, Int.ofNat_le] at hc32
      refine EW_skip ?_
      refine EQ_then (EQ_wp ?_)
      refine EW_seq ?_
      -- region 6  raft.go:243
      refine EW_region ?_
      refine EL_s rfl rfl rfl (os_move rfl) ?_
      refine EL_s rfl rfl rfl (os_nilCheck rfl) ?_
      refine EL_s rfl rfl rfl (os_field rfl fl47_7) ?_
      refine EL_u rfl rfl (ox_store rfl rfl sz3 rfl (by rfl) (.head .head)) ?_
      refine EL_nil ?_
      refine EQ_then (EQ_wp ?_)
      refine EW_seq ?_
      refine EW_seq ?_
      -- region 7  raft.go:244
      refine EW_region ?_
      refine EL_s rfl rfl rfl (os_move rfl) ?_
      refine EL_s rfl rfl rfl (os_nilCheck rfl) ?_
      refine EL_s rfl rfl rfl (os_field rfl fl47_0) ?_
      refine EL_s rfl rfl rfl (os_field rfl fl36_0) ?_
      refine EL_s rfl rfl rfl (os_field rfl fl33_0) ?_
      refine EL_s rfl rfl rfl (os_load_one rfl one22 (cells_own own_head rfl)) ?_
      refine EL_s rfl rfl rfl (os_eql rfl rfl) ?_
      refine EL_nil ?_
      refine EQ_then (EQ_wp ?_)
      refine EW_cond rfl (fun hc42 => ?_) (fun hc42 => ?_)
      · have hb42 := hc42
        try simp only [Bool.or_eq_true, Bool.and_eq_true, Bool.or_eq_false_iff, Bool.and_eq_false_iff, decide_eq_true_eq, decide_eq_false_iff_not, Bool.not_eq_true', Bool.not_eq_false', Int.natCast_inj, Int.ofNat_lt, Int.ofNat_le] at hc42
        refine EW_seq ?_
        -- region 8  raft.go:245
        refine EW_region ?_
        refine EL_s rfl rfl rfl (os_assign rfl) ?_
        refine EL_nil ?_
        refine EQ_then (EQ_wp ?_)
        refine EW_ret ?_
        refine EQ_then_ret (?_)
        exact pn_ret1 [_, _, _, _, _] Try.results19 (rv_tmp rfl) (.refl _) (Incl.cons (Incl.cons (Incl.cons (Incl.cons (Incl.cons (Incl.refl _) _) _) _) _) _) ⟨(NodeAt.to (Node.mk xr.Term xr.Vote xr.Base xr.BaseTerm xr.Entries xr.id xr.n xr.limit xr.role xr.lead xr.commit 0 xr.votes xr.match_ xr.next) hora horb horc hord (by rw [NodeP.tick, if_neg (show ¬ xr.abs.role = 3 from hc7), if_neg (show ¬ xr.abs.clock + 1 < xr.abs.limit + xr.abs.id from hc32), if_pos (show xr.abs.Term = 4611686018427387904 from (by show xr.Term = _; omega))]; first | done | rfl | exact hay11 | exact hx11)), ⟨(Sl.mk (Hd.mk none 0 0) []), rfl, (FRow.none _ _ _), (by rw [NodeP.tick, if_neg (show ¬ xr.abs.role = 3 from hc7), if_neg (show ¬ xr.abs.clock + 1 < xr.abs.limit + xr.abs.id from hc32), if_pos (show xr.abs.Term = 4611686018427387904 from (by show xr.Term = _; omega))]; first | done | rfl | exact hay11 | exact hx11)⟩⟩ (.inl rfl)
      · have hb42 := hc42
        try simp only [Bool.or_eq_true, Bool.and_eq_true, Bool.or_eq_false_iff, Bool.and_eq_false_iff, decide_eq_true_eq, decide_eq_false_iff_not, Bool.not_eq_true', Bool.not_eq_false', Int.natCast_inj, Int.ofNat_lt, Int.ofNat_le] at hc42
        refine EW_skip ?_
        refine EQ_then (EQ_wp ?_)
        refine EW_seq ?_
        refine EW_seq ?_
        -- region 9  raft.go:247
        refine EW_region ?_
        refine EL_s rfl rfl rfl (os_move rfl) ?_
        refine EL_s rfl rfl rfl (os_nilCheck rfl) ?_
        refine EL_s rfl rfl rfl (os_field rfl fl47_2) ?_
        refine EL_s rfl rfl rfl (os_load_one rfl one3 (cells_own own_head rfl)) ?_
        refine EL_s rfl rfl rfl (os_eql rfl rfl) ?_
        refine EL_nil ?_
        refine EQ_then (EQ_wp ?_)
        refine EW_cond rfl (fun hc47 => ?_) (fun hc47 => ?_)
        · have hb47 := hc47
          try simp only [Bool.or_eq_true, Bool.and_eq_true, Bool.or_eq_false_iff, Bool.and_eq_false_iff, decide_eq_true_eq, decide_eq_false_iff_not, Bool.not_eq_true', Bool.not_eq_false', Int.natCast_inj, Int.ofNat_lt, Int.ofNat_le] at hc47
          refine EW_seq ?_
          -- region 10  raft.go:248
          refine EW_region ?_
          refine EL_s rfl rfl rfl (os_move rfl) ?_
          refine EL_x rfl rfl (ox_callN (vs := [(.pointer (some ⟨br, 0, none⟩))]) body75 rfl (pl_0_5 _ _ _ _ _ _) (n_stand (NodeAt.intro (Node.mk xr.Term xr.Vote xr.Base xr.BaseTerm xr.Entries xr.id xr.n xr.limit xr.role xr.lead xr.commit 0 xr.votes xr.match_ xr.next) hora horb horc hord) (by exact ⟨hp0.base, hp0.len, hp0.term, hp0.id0, hp0.idn, hp0.n5, hp0.lim0, hp0.lim1, (by show (0 : Int) ≤ 0; omega), (by show (0 : Int) ≤ 2000; omega), hp0.bt, hp0.trm, hp0.cmt⟩) (by simp only [Node.abs, List.length_map]; omega) (by simp only [Node.abs]; omega))) ?_
          rintro I49 L49 v49 hI49 ⟨Ss49, rfl, ⟨x49, S49a, S49b, S49c, S49d, hx49, rfl, ho49a, ho49b, ho49c, ho49d⟩, ⟨y49, rfl, hy49, hay49⟩⟩
          refine EL_perm (nm_5 _ _ _ _ _ _) ?_
          refine EL_s rfl rfl rfl (os_assign rfl) ?_
          refine EL_nil ?_
          refine EQ_then (EQ_wp ?_)
          refine EW_ret ?_
          refine EQ_then_ret (?_)
          exact pn_ret1 [_, _, _, _, _] Try.results19 (rv_tmp rfl) hI49 (Incl.cons (Incl.cons (Incl.cons (Incl.cons (Incl.cons (Incl.refl _) _) _) _) _) _) ⟨(NodeAt.to x49 ho49a ho49b ho49c ho49d (by rw [NodeP.tick, if_neg (show ¬ xr.abs.role = 3 from hc7), if_neg (show ¬ xr.abs.clock + 1 < xr.abs.limit + xr.abs.id from hc32), if_neg (show ¬ xr.abs.Term = 4611686018427387904 from (by show ¬ xr.Term = _; omega)), if_pos (show xr.abs.n = 1 from hc47)]; first | done | rfl | exact hay49 | exact hx49)), ⟨y49, rfl, (FRow.mono hy49 (.refl _) (.refl _)), (by rw [NodeP.tick, if_neg (show ¬ xr.abs.role = 3 from hc7), if_neg (show ¬ xr.abs.clock + 1 < xr.abs.limit + xr.abs.id from hc32), if_neg (show ¬ xr.abs.Term = 4611686018427387904 from (by show ¬ xr.Term = _; omega)), if_pos (show xr.abs.n = 1 from hc47)]; first | done | rfl | exact hay49 | exact hx49)⟩⟩ (.inl rfl)
        · have hb47 := hc47
          try simp only [Bool.or_eq_true, Bool.and_eq_true, Bool.or_eq_false_iff, Bool.and_eq_false_iff, decide_eq_true_eq, decide_eq_false_iff_not, Bool.not_eq_true', Bool.not_eq_false', Int.natCast_inj, Int.ofNat_lt, Int.ofNat_le] at hc47
          refine EW_skip ?_
          refine EQ_then (EQ_wp ?_)
          refine EW_seq ?_
          -- region 11  raft.go:250
          refine EW_region ?_
          refine EL_s rfl rfl rfl (os_move rfl) ?_
          refine EL_s rfl rfl rfl (os_move rfl) ?_
          refine EL_s rfl rfl rfl (os_nilCheck rfl) ?_
          refine EL_s rfl rfl rfl (os_field rfl fl47_4) ?_
          refine EL_u rfl rfl (ox_store rfl rfl sz3 rfl (by rfl) (.head .head)) ?_
          refine EL_s rfl rfl rfl (os_nilCheck rfl) ?_
          refine EL_s rfl rfl rfl (os_field rfl fl47_5) ?_
          refine EL_u rfl rfl (ox_store rfl rfl sz3 rfl (by rfl) (.head .head)) ?_
          refine EL_nil ?_
          refine EQ_then (EQ_wp ?_)
          refine EW_seq ?_
          -- region 12  raft.go:251
          refine EW_region ?_
          refine EL_s rfl rfl rfl (os_move rfl) ?_
          refine EL_s rfl rfl rfl (os_move rfl) ?_
          refine EL_s rfl rfl rfl (os_nilCheck rfl) ?_
          refine EL_s rfl rfl rfl (os_field rfl fl47_0) ?_
          refine EL_s rfl rfl rfl (os_field rfl fl36_0) ?_
          refine EL_s rfl rfl rfl (os_field rfl fl33_0) ?_
          refine EL_s rfl rfl rfl (os_load_one rfl one22 (cells_own own_head rfl)) ?_
          refine EL_s rfl rfl rfl (os_addn (p := xr.Term) (q := 1) rfl rfl (IntWalk.u64_in _ (by omega))) ?_
          refine EL_x rfl rfl (ox_callN (vs := [(.pointer (some ⟨br, 0, none⟩)), (.int .i64 1), (.int .u64 (((xr.Term + 1) : Nat) : Int))]) body76 rfl (pl_0_5 _ _ _ _ _ _) (n_call (NodeAt.intro (Node.mk xr.Term xr.Vote xr.Base xr.BaseTerm xr.Entries xr.id xr.n xr.limit 1 (-1) xr.commit 0 xr.votes xr.match_ xr.next) hora horb horc hord) 1 (xr.Term + 1) (by exact ⟨hp0.base, hp0.len, hp0.term, hp0.id0, hp0.idn, hp0.n5, hp0.lim0, hp0.lim1, (by show (0 : Int) ≤ 0; omega), (by show (0 : Int) ≤ 2000; omega), hp0.bt, hp0.trm, hp0.cmt⟩) (by omega) (by omega))) ?_
          rintro I64 L64 v64 hI64 ⟨Ss64, rfl, ⟨x64, S64a, S64b, S64c, S64d, hx64, rfl, ho64a, ho64b, ho64c, ho64d⟩, ⟨y64, rfl, hy64, hay64⟩⟩
          refine EL_perm (nm_5 _ _ _ _ _ _) ?_
          refine EL_s rfl rfl rfl (os_assign rfl) ?_
          refine EL_nil ?_
          refine EQ_then (EQ_wp ?_)
          refine EW_ret ?_
          exact pn_ret1 [_, _, _, _, _] Try.results19 (rv_tmp rfl) hI64 (Incl.cons (Incl.cons (Incl.cons (Incl.cons (Incl.cons (Incl.refl _) _) _) _) _) _) ⟨(NodeAt.to x64 ho64a ho64b ho64c ho64d (by rw [NodeP.tick, if_neg (show ¬ xr.abs.role = 3 from hc7), if_neg (show ¬ xr.abs.clock + 1 < xr.abs.limit + xr.abs.id from hc32), if_neg (show ¬ xr.abs.Term = 4611686018427387904 from (by show ¬ xr.Term = _; omega)), if_neg (show ¬ xr.abs.n = 1 from hc47)]; first | done | rfl | exact hay64 | exact hx64)), ⟨y64, rfl, (FRow.mono hy64 (.refl _) (.refl _)), (by rw [NodeP.tick, if_neg (show ¬ xr.abs.role = 3 from hc7), if_neg (show ¬ xr.abs.clock + 1 < xr.abs.limit + xr.abs.id from hc32), if_neg (show ¬ xr.abs.Term = 4611686018427387904 from (by show ¬ xr.Term = _; omega)), if_neg (show ¬ xr.abs.n = 1 from hc47)]; first | done | rfl | exact hay64 | exact hx64)⟩⟩ (.inl rfl)

theorem n_preVoted {I : Gh} {L : List Seg} {br : Nat} {r : NodeP} {Ssr : List Seg} (hr : NodeAt I br r Ssr) {m : Msg} (hm : Msg.Ok I m) (hp0 : NodeP.Few r) (hp1 : r.Entries.length < 1000000000) (hp2 : r.role = 1 ∨ r.role = 2 → (r.votes.length : Int) = r.n) (hp3 : 0 ≤ m.abs.From ∧ m.abs.From < r.n) (hp4 : m.abs.Term ≤ 4611686018427387904) : PN Try.prog 68 #[.pointer (some ⟨br, 0, none⟩), .agg (m.cells).toArray] I L (Ssr) fun K Ss' v => NodeAt K br ((r.preVoted m.abs).1) Ss' ∧ (∃ (y0 : Sl Msg), v = y0.v ∧ FRow rMsg K [] y0 ∧ y0.xs.map Msg.abs = (r.preVoted m.abs).2) := by
  obtain ⟨xr, Sra, Srb, Src, Srd, rfl, rfl, hora, horb, horc, hord⟩ := hr
  refine PN.of (n := 53) Try.func68 rfl Try.ntmps68 rfl fun I0 L0 hI0 hL0 => ?_
  refine EW_perm (nm_5 _ _ _ _ _ _) ?_
  have hora := hora.mono hI0
  have horb := horb.mono hI0
  have horc := horc.mono hI0
  have hord := hord.mono hI0
  have hm := hm.mono hI0
  have hf0 := hp0
  obtain ⟨hfb, hfl, hft, hid0, hidn, hn5, hlim0, hlim1, hclk0, hclk1, hbt, htrm, hcmt⟩ := hf0
  simp only [Node.abs, List.length_map] at hfb hfl hft hid0 hidn hn5 hlim0 hlim1 hclk0 hclk1 hbt htrm hcmt
  have hltm := NodeP.lastTerm_le hp0
  have hlast : NodeP.last xr.abs = xr.Base + xr.Entries.xs.length := by simp [NodeP.last, Node.abs]
  simp only [Node.abs, List.length_map] at hp1
  simp only [Node.abs] at hp2 hp3
  simp only [Msg.abs] at hp3 hp4
  have hmt := hm.Term
  have hmf := hm.From
  refine EW_seq ?_
  -- region 0  raft.go:297
  refine EW_region ?_
  refine EL_a rfl rfl rfl (oa_box rfl) ?_
  intro b3
  refine EL_s rfl rfl rfl (os_assign rfl) ?_
  refine EL_nil ?_
  refine EQ_then (EQ_wp ?_)
  refine EW_seq ?_
  refine EW_seq ?_
  -- region 1  raft.go:298
  refine EW_region ?_
  refine EL_s rfl rfl rfl (os_field rfl fl41_8) ?_
  refine EL_s rfl rfl rfl (os_load_one rfl one4 (cells_own own_head rfl)) ?_
  refine EL_s rfl rfl rfl (os_not rfl) ?_
  refine EL_nil ?_
  refine EQ_then (EQ_wp ?_)
  refine EW_cond rfl (fun hc7 => ?_) (fun hc7 => ?_)
  · have hb7 := hc7
    try simp only [Bool.or_eq_true, Bool.and_eq_true, Bool.or_eq_false_iff, Bool.and_eq_false_iff, decide_eq_true_eq, decide_eq_false_iff_not, Bool.not_eq_true', Bool.not_eq_false', Int.natCast_inj, Int.ofNat_lt, Int.ofNat_le] at hc7
    refine EW_seq ?_
    refine EW_seq ?_
    -- region 2 DRAWN  raft.go:299
    refine EW_drawC [] [⟨[], some 8, [3], .s, 0⟩, ⟨[0], some 9, [8], .s, 1⟩, ⟨[], some 10, [0], .s, 0⟩, ⟨[2], some 11, [10], .s, 4⟩, ⟨[3], some 12, [11], .s, 12⟩, ⟨[4], some 13, [12], .s, 28⟩, ⟨[5], some 14, [13], .s, 60⟩, ⟨[6], some 15, [14], .s, 124⟩, ⟨[1, 7], some 16, [9, 15], .s, 255⟩] [.s, .s, .s, .s, .s, .s, .s, .s, .s] [0, 1, 2, 3, 4, 5, 6, 7, 8] mixed (by kernel_rfl) (by kernel_rfl) (by kernel_rfl) rfl rfl ?_
    refine EP_s rfl rfl rfl rfl rfl (by exact (os_field rfl fl41_3)) ?_
    refine EP_s rfl rfl rfl rfl rfl (by exact (os_load_one rfl one22 (cells_own own_head rfl))) ?_
    refine EP_s rfl rfl rfl rfl rfl (by exact (os_move rfl)) ?_
    refine EP_s rfl rfl rfl rfl rfl (by exact (os_nilCheck rfl)) ?_
    refine EP_s rfl rfl rfl rfl rfl (by exact (os_field rfl fl47_0)) ?_
    refine EP_s rfl rfl rfl rfl rfl (by exact (os_field rfl fl36_0)) ?_
    refine EP_s rfl rfl rfl rfl rfl (by exact (os_field rfl fl33_0)) ?_
    refine EP_s rfl rfl rfl rfl rfl (by exact (os_load_one rfl one22 (cells_own (own_tail own_head) rfl))) ?_
    refine EP_s rfl rfl rfl rfl rfl (by exact (os_gtr rfl rfl)) ?_
    refine EP_nil ?_
    refine EQ_then (EQ_wp ?_)
    refine EW_cond rfl (fun hc16 => ?_) (fun hc16 => ?_)
    · have hb16 := hc16
      try simp only [Bool.or_eq_true, Bool.and_eq_true, Bool.or_eq_false_iff, Bool.and_eq_false_iff, decide_eq_true_eq, decide_eq_false_iff_not, Bool.not_eq_true', Bool.not_eq_false', Int.natCast_inj, Int.ofNat_lt, Int.ofNat_le] at hc16
      -- region 3  raft.go:300
      refine EW_region ?_
      refine EL_s rfl rfl rfl (os_move rfl) ?_
      refine EL_s rfl rfl rfl (os_field rfl fl41_3) ?_
      refine EL_s rfl rfl rfl (os_load_one rfl one22 (cells_own own_head rfl)) ?_
      refine EL_x rfl rfl (ox_callN (vs := [(.pointer (some ⟨br, 0, none⟩)), (.int .u64 ((m.Term : Nat) : Int)), (.int .i64 (-1))]) body109 rfl (pl_1_5 _ _ _ _ _ _ _) (n_follow (NodeAt.intro xr hora horb horc hord) m.Term (-1))) ?_
      rintro I20 L20 v20 hI20 ⟨Ss20, rfl, ⟨x20, S20a, S20b, S20c, S20d, hx20, rfl, ho20a, ho20b, ho20c, ho20d⟩, rfl⟩
      refine EL_perm (nm_5 _ _ _ _ _ _) ?_
      refine EL_nil ?_
      refine EQ_then (EQ_wp ?_)
      refine EW_seq ?_
      -- region 4  raft.go:302
      refine EW_region ?_
      refine EL_s rfl rfl rfl (os_assign rfl) ?_
      refine EL_nil ?_
      refine EQ_then (EQ_wp ?_)
      refine EW_ret ?_
      refine EQ_then_ret (?_)
      exact pn_ret1 [_, _, _, _, _] Try.results68 (rv_tmp rfl) hI20 (Incl.cons (Incl.cons (Incl.cons (Incl.cons (Incl.cons (Incl.skip (Incl.refl _) _) _) _) _) _) _) ⟨(NodeAt.to x20 ho20a ho20b ho20c ho20d (by rw [NodeP.preVoted, if_pos (show (!m.abs.OK) = true from by simp [Msg.abs, hc7])]; first | done | rfl | exact hx20.trans (if_pos (show xr.abs.Term < m.abs.Term from hc16)).symm)), ⟨(Sl.mk (Hd.mk none 0 0) []), rfl, (FRow.none _ _ _), (by rw [NodeP.preVoted, if_pos (show (!m.abs.OK) = true from by simp [Msg.abs, hc7])]; first | done | rfl | exact hx20.trans (if_pos (show xr.abs.Term < m.abs.Term from hc16)).symm)⟩⟩ (.inl rfl)
    · have hb16 := hc16
      try simp only [Bool.or_eq_true, Bool.and_eq_true, Bool.or_eq_false_iff, Bool.and_eq_false_iff, decide_eq_true_eq, decide_eq_false_iff_not, Bool.not_eq_true', Bool.not_eq_false', Int.natCast_inj, Int.ofNat_lt, Int.ofNat_le] at hc16
      refine EW_skip ?_
      refine EQ_then (EQ_wp ?_)
      refine EW_seq ?_
      -- region 4  raft.go:302
      refine EW_region ?_
      refine EL_s rfl rfl rfl (os_assign rfl) ?_
      refine EL_nil ?_
      refine EQ_then (EQ_wp ?_)
      refine EW_ret ?_
      refine EQ_then_ret (?_)
      exact pn_ret1 [_, _, _, _, _] Try.results68 (rv_tmp rfl) (.refl _) (Incl.skip (Incl.cons (Incl.cons (Incl.cons (Incl.cons (Incl.cons (Incl.refl _) _) _) _) _) _) _) ⟨(NodeAt.to xr hora horb horc hord (by rw [NodeP.preVoted, if_pos (show (!m.abs.OK) = true from by simp [Msg.abs, hc7])]; first | done | rfl | exact (if_neg (show ¬ xr.abs.Term < m.abs.Term from (by show ¬ xr.Term < m.Term; omega))).symm)), ⟨(Sl.mk (Hd.mk none 0 0) []), rfl, (FRow.none _ _ _), (by rw [NodeP.preVoted, if_pos (show (!m.abs.OK) = true from by simp [Msg.abs, hc7])]; first | done | rfl | exact (if_neg (show ¬ xr.abs.Term < m.abs.Term from (by show ¬ xr.Term < m.Term; omega))).symm)⟩⟩ (.inl rfl)
  · have hb7 := hc7
    try simp only [Bool.or_eq_true, Bool.and_eq_true, Bool.or_eq_false_iff, Bool.and_eq_false_iff, decide_eq_true_eq, decide_eq_false_iff_not, Bool.not_eq_true', Bool.not_eq_false', Int.natCast_inj, Int.ofNat_lt, Int.ofNat_le] at hc7
    refine EW_skip ?_
    refine EQ_then (EQ_wp ?_)
    refine EW_seq ?_
    refine EW_seq ?_
    -- region 5 DRAWN  raft.go:304
    refine EW_drawC [] [⟨[], some 21, [0], .s, 0⟩, ⟨[0], some 22, [21], .s, 1⟩, ⟨[1], some 23, [22], .s, 3⟩, ⟨[2], some 24, [23], .s, 7⟩, ⟨[3], some 25, [24], .s, 15⟩, ⟨[4], some 26, [25], .s, 31⟩, ⟨[5], some 27, [3, 26], .s, 63⟩, ⟨[6, 5], some 28, [27, 26], .s, 127⟩, ⟨[5], some 29, [0, 26], .s, 63⟩, ⟨[8, 5], some 30, [29, 26], .s, 319⟩, ⟨[9, 5], some 31, [30, 26], .s, 831⟩, ⟨[10, 5], some 32, [31, 26], .s, 1855⟩, ⟨[11, 5], some 33, [32, 26], .s, 3903⟩, ⟨[12, 5], some 34, [33, 26], .s, 7999⟩, ⟨[13, 5], some 35, [34, 26], .s, 16191⟩, ⟨[7, 14, 5], some 36, [28, 35, 26], .s, 32767⟩, ⟨[5, 15], some 37, [26, 36], .s, 65535⟩] [.s, .s, .s, .s, .s, .s, .s, .s, .s, .s, .s, .s, .s, .s, .s, .s, .s] [0, 1, 2, 3, 4, 5, 6, 7, 8, 9, 10, 11, 12, 13, 14, 15, 16] mixed (by kernel_rfl) (by kernel_rfl) (by kernel_rfl) rfl rfl ?_
    refine EP_s rfl rfl rfl rfl rfl (by exact (os_move rfl)) ?_
    refine EP_s rfl rfl rfl rfl rfl (by exact (os_nilCheck rfl)) ?_
    refine EP_s rfl rfl rfl rfl rfl (by exact (os_field rfl fl47_4)) ?_
    refine EP_s rfl rfl rfl rfl rfl (by exact (os_load_one rfl one3 (cells_own (own_tail own_head) rfl))) ?_
    refine EP_s rfl rfl rfl rfl rfl (by exact (os_neq rfl rfl)) ?_
    refine EP_s rfl rfl rfl rfl rfl (by exact (os_move rfl)) ?_
    refine EP_joint 11 37 (.bool ((!decide (xr.role = 1)) || (!decide (((m.Term : Nat) : Int) = (((xr.Term + 1) : Nat) : Int))))) [6, 7, 8, 9, 10, 11, 12, 13, 14, 15, 16] rfl rfl rfl ?_ ?_
    · skip
      refine ES_case (!decide (xr.role = 1)) (fun hg26 => ?_) (fun hg26 => ?_)
      · have hg26_ := hg26
        try simp only [Bool.or_eq_true, Bool.and_eq_true, Bool.or_eq_false_iff, Bool.and_eq_false_iff, decide_eq_true_eq, decide_eq_false_iff_not, Bool.not_eq_true', Bool.not_eq_false', Int.natCast_inj, Int.ofNat_lt, Int.ofNat_le] at hg26_
        refine ES_no rfl hg26 rfl rfl rfl rfl ?_
        refine ES_no rfl hg26 rfl rfl rfl rfl ?_
        refine ES_no rfl hg26 rfl rfl rfl rfl ?_
        refine ES_no rfl hg26 rfl rfl rfl rfl ?_
        refine ES_no rfl hg26 rfl rfl rfl rfl ?_
        refine ES_no rfl hg26 rfl rfl rfl rfl ?_
        refine ES_no rfl hg26 rfl rfl rfl rfl ?_
        refine ES_no rfl hg26 rfl rfl rfl rfl ?_
        refine ES_no rfl hg26 rfl rfl rfl rfl ?_
        refine ES_no rfl hg26 rfl rfl rfl rfl ?_
        refine ES_s rfl rfl rfl (os_pick_t' rfl hg26 rfl) ?_
        exact ES_fin 11 rfl rfl (by rw [hg26]; rfl)
      · have hg26_ := hg26
        try simp only [Bool.or_eq_true, Bool.and_eq_true, Bool.or_eq_false_iff, Bool.and_eq_false_iff, decide_eq_true_eq, decide_eq_false_iff_not, Bool.not_eq_true', Bool.not_eq_false', Int.natCast_inj, Int.ofNat_lt, Int.ofNat_le] at hg26_
        refine ES_yes (j := 5) (b := false) rfl rfl rfl hg26 rfl rfl (os_field rfl fl41_3) ?_
        refine ES_yes (j := 5) (b := false) rfl rfl rfl hg26 rfl rfl (os_load_one rfl one22 (cells_own own_head rfl)) ?_
        refine ES_yes (j := 5) (b := false) rfl rfl rfl hg26 rfl rfl (os_move rfl) ?_
        refine ES_yes (j := 5) (b := false) rfl rfl rfl hg26 rfl rfl (os_nilCheck rfl) ?_
        refine ES_yes (j := 5) (b := false) rfl rfl rfl hg26 rfl rfl (os_field rfl fl47_0) ?_
        refine ES_yes (j := 5) (b := false) rfl rfl rfl hg26 rfl rfl (os_field rfl fl36_0) ?_
        refine ES_yes (j := 5) (b := false) rfl rfl rfl hg26 rfl rfl (os_field rfl fl33_0) ?_
        refine ES_yes (j := 5) (b := false) rfl rfl rfl hg26 rfl rfl (os_load_one rfl one22 (cells_own (own_tail own_head) rfl)) ?_
        refine ES_yes (j := 5) (b := false) rfl rfl rfl hg26 rfl rfl (os_addn (p := xr.Term) (q := 1) rfl rfl (IntWalk.u64_in _ (by omega))) ?_
        refine ES_yes (j := 5) (b := false) rfl rfl rfl hg26 rfl rfl (os_neq rfl rfl) ?_
        refine ES_s rfl rfl rfl (os_pick_f' rfl hg26 rfl) ?_
        exact ES_fin 11 rfl rfl (by rw [hg26]; rfl)
    refine EP_nil ?_
    refine EQ_then (EQ_wp ?_)
    refine EW_cond rfl (fun hc37 => ?_) (fun hc37 => ?_)
    · have hb37 := hc37
      try simp only [Bool.or_eq_true, Bool.and_eq_true, Bool.or_eq_false_iff, Bool.and_eq_false_iff, decide_eq_true_eq, decide_eq_false_iff_not, Bool.not_eq_true', Bool.not_eq_false', Int.natCast_inj, Int.ofNat_lt, Int.ofNat_le] at hc37
      refine EW_seq ?_
      -- region 6  raft.go:305
      refine EW_region ?_
      refine EL_s rfl rfl rfl (os_assign rfl) ?_
      refine EL_nil ?_
      refine EQ_then (EQ_wp ?_)
      refine EW_ret ?_
      refine EQ_then_ret (?_)
      exact pn_ret1 [_, _, _, _, _] Try.results68 (rv_tmp rfl) (.refl _) (Incl.skip (Incl.cons (Incl.cons (Incl.cons (Incl.cons (Incl.cons (Incl.refl _) _) _) _) _) _) _) ⟨(NodeAt.to xr hora horb horc hord (by rw [NodeP.preVoted, if_neg (show ¬ (!m.abs.OK) = true from by simp [Msg.abs, hc7]), if_pos (show ¬ xr.abs.role = 1 ∨ ¬ m.abs.Term = xr.abs.Term + 1 from (by show ¬ xr.role = 1 ∨ ¬ m.Term = xr.Term + 1; omega))]; first | done | rfl)), ⟨(Sl.mk (Hd.mk none 0 0) []), rfl, (FRow.none _ _ _), (by rw [NodeP.preVoted, if_neg (show ¬ (!m.abs.OK) = true from by simp [Msg.abs, hc7]), if_pos (show ¬ xr.abs.role = 1 ∨ ¬ m.abs.Term = xr.abs.Term + 1 from (by show ¬ xr.role = 1 ∨ ¬ m.Term = xr.Term + 1; omega))]; first | done | rfl)⟩⟩ (.inl rfl)
    · have hb37 := hc37
      try simp only [Bool.or_eq_true, Bool.and_eq_true, Bool.or_eq_false_iff, Bool.and_eq_false_iff, decide_eq_true_eq, decide_eq_false_iff_not, Bool.not_eq_true', Bool.not_eq_false', Int.natCast_inj, Int.ofNat_lt, Int.ofNat_le] at hc37
      refine EW_skip ?_
      refine EQ_then (EQ_wp ?_)
      refine EW_seq ?_
      -- region 7 DRAWN  raft.go:307
      refine EW_drawC [] [⟨[], some 38, [0], .s, 0⟩, ⟨[0], some 39, [38], .s, 1⟩, ⟨[1], some 40, [39], .s, 3⟩, ⟨[2], some 41, [40], .s, 7⟩, ⟨[], some 42, [3], .s, 0⟩, ⟨[4], some 43, [42], .s, 16⟩, ⟨[3, 5, 0, 1, 2, 3, 4, 5], some 44, [41, 43], .s, 63⟩, ⟨[6, 0, 1, 2, 3, 4, 5], none, [44], .x, 127⟩] [.s, .s, .s, .s, .s, .s, .s, .x] [0, 1, 2, 3, 4, 5, 6, 7] mixed (by kernel_rfl) (by kernel_rfl) (by kernel_rfl) rfl rfl ?_
      refine EP_s rfl rfl rfl rfl rfl (by exact (os_move rfl)) ?_
      refine EP_s rfl rfl rfl rfl rfl (by exact (os_nilCheck rfl)) ?_
      refine EP_s rfl rfl rfl rfl rfl (by exact (os_field rfl fl47_8)) ?_
      refine EP_s rfl rfl rfl rfl rfl (by exact (os_load_one rfl one45 (cells_own (own_tail own_head) rfl))) ?_
      refine EP_s rfl rfl rfl rfl rfl (by exact (os_field rfl fl41_1)) ?_
      refine EP_s rfl rfl rfl rfl rfl (by exact (os_load_one rfl one3 (cells_own own_head rfl))) ?_
      have hl44 := (show xr.votes.h.n = xr.votes.xs.length from OwnR.len horb)
      obtain ⟨x44, hx44⟩ := get_some (l := xr.votes.xs) (k := (m.From).toNat) (by first | omega | (simp only [List.length_set, List.length_replicate, List.length_cons, List.length_nil]; omega) | (simp <;> omega))
      refine EP_s rfl rfl rfl rfl rfl (by exact (os_at (m := xr.votes.h.n) ((m.From).toNat) rfl rfl (by omega) sl45 (by omega) (by have hz_ := OwnR.some horb (by show 0 < xr.votes.h.n; omega); exact hz_))) ?_
      refine EP_z rfl rfl rfl rfl (by exact (ox_set true rfl rfl sz4 rfl horb (by first | omega | (simp only [List.length_set, List.length_replicate, List.length_cons, List.length_nil]; omega) | (simp <;> omega)) trivial (bk_3 _ _ _ _ _))) ?_
      rintro L7_7 v7_7 ⟨S7_7, rfl, ho7_7⟩
      refine EP_perm (bk_3 _ _ _ _ _) ?_
      have ho7_7 : OwnR rBool I0 4 (Sl.mk xr.votes.h (xr.votes.xs.set ((m.From).toNat) true)) S7_7 := ho7_7
      refine EP_nil ?_
      refine EQ_then (EQ_wp ?_)
      refine EW_seq ?_
      refine EW_seq ?_
      -- region 8  raft.go:308
      refine EW_region ?_
      refine EL_s rfl rfl rfl (os_move rfl) ?_
      refine EL_s rfl rfl rfl (os_move rfl) ?_
      refine EL_s rfl rfl rfl (os_nilCheck rfl) ?_
      refine EL_s rfl rfl rfl (os_field rfl fl47_8) ?_
      refine EL_s rfl rfl rfl (os_load_one rfl one45 (cells_own (own_tail own_head) rfl)) ?_
      refine EL_s rfl rfl rfl (os_call (vs := [(.pointer (some ⟨br, 0, none⟩)), ((Sl.mk xr.votes.h (xr.votes.xs.set ((m.From).toNat) true)).v)]) body110 rfl (n_most (NodeAt.intro (Node.mk xr.Term xr.Vote xr.Base xr.BaseTerm xr.Entries xr.id xr.n xr.limit xr.role xr.lead xr.commit xr.clock (Sl.mk xr.votes.h (xr.votes.xs.set ((m.From).toNat) true)) xr.match_ xr.next) hora ho7_7 horc hord) (incl_mid [_] [_, _, _, _, _] _) (OwnR.frow ho7_7 fun x hx => .inr (own_tail (own_tail (own_tail (own_seg hx))))))) ?_
      refine EL_nil ?_
      refine EQ_then (EQ_wp ?_)
      refine EW_cond rfl (fun hc50 => ?_) (fun hc50 => ?_)
      · have hb50 := hc50
        try simp only [Bool.or_eq_true, Bool.and_eq_true, Bool.or_eq_false_iff, Bool.and_eq_false_iff, decide_eq_true_eq, decide_eq_false_iff_not, Bool.not_eq_true', Bool.not_eq_false', Int.natCast_inj, Int.ofNat_lt, Int.ofNat_le] at hc50
        refine EW_seq ?_
        -- region 9  raft.go:309
        refine EW_region ?_
        refine EL_s rfl rfl rfl (os_move rfl) ?_
        refine EL_x rfl rfl (ox_callN (vs := [(.pointer (some ⟨br, 0, none⟩))]) body75 rfl (pl_1_5 _ _ _ _ _ _ _) (n_stand (NodeAt.intro (Node.mk xr.Term xr.Vote xr.Base xr.BaseTerm xr.Entries xr.id xr.n xr.limit xr.role xr.lead xr.commit xr.clock (Sl.mk xr.votes.h (xr.votes.xs.set ((m.From).toNat) true)) xr.match_ xr.next) hora ho7_7 horc hord) (by exact ⟨hp0.base, hp0.len, hp0.term, hp0.id0, hp0.idn, hp0.n5, hp0.lim0, hp0.lim1, hp0.clk0, hp0.clk1, hp0.bt, hp0.trm, hp0.cmt⟩) (by simp only [Node.abs, List.length_map]; omega) (by simp only [Node.abs]; omega))) ?_
        rintro I52 L52 v52 hI52 ⟨Ss52, rfl, ⟨x52, S52a, S52b, S52c, S52d, hx52, rfl, ho52a, ho52b, ho52c, ho52d⟩, ⟨y52, rfl, hy52, hay52⟩⟩
        refine EL_perm (nm_5 _ _ _ _ _ _) ?_
        refine EL_s rfl rfl rfl (os_assign rfl) ?_
        refine EL_nil ?_
        refine EQ_then (EQ_wp ?_)
        refine EW_ret ?_
        refine EQ_then_ret (?_)
        exact pn_ret1 [_, _, _, _, _] Try.results68 (rv_tmp rfl) hI52 (Incl.cons (Incl.cons (Incl.cons (Incl.cons (Incl.cons (Incl.skip (Incl.refl _) _) _) _) _) _) _) ⟨(NodeAt.to x52 ho52a ho52b ho52c ho52d (by rw [NodeP.preVoted, if_neg (show ¬ (!m.abs.OK) = true from by simp [Msg.abs, hc7]), if_neg (show ¬ (¬ xr.abs.role = 1 ∨ ¬ m.abs.Term = xr.abs.Term + 1) from (by show ¬ (¬ xr.role = 1 ∨ ¬ m.Term = xr.Term + 1); omega))]; refine Eq.trans ?_ (congrArg _ (if_pos hb50)).symm; first | exact hx52 | exact hay52)), ⟨y52, rfl, (FRow.mono hy52 (.refl _) (.refl _)), (by rw [NodeP.preVoted, if_neg (show ¬ (!m.abs.OK) = true from by simp [Msg.abs, hc7]), if_neg (show ¬ (¬ xr.abs.role = 1 ∨ ¬ m.abs.Term = xr.abs.Term + 1) from (by show ¬ (¬ xr.role = 1 ∨ ¬ m.Term = xr.Term + 1); omega))]; refine Eq.trans ?_ (congrArg _ (if_pos hb50)).symm; first | exact hx52 | exact hay52)⟩⟩ (.inl rfl)
      · have hb50 := hc50
        try simp only [Bool.or_eq_true, Bool.and_eq_true, Bool.or_eq_false_iff, Bool.and_eq_false_iff, decide_eq_true_eq, decide_eq_false_iff_not, Bool.not_eq_true', Bool.not_eq_false', Int.natCast_inj, Int.ofNat_lt, Int.ofNat_le] at hc50
        refine EW_skip ?_
        refine EQ_then (EQ_wp ?_)
        refine EW_seq ?_
        -- region 10  raft.go:311
        refine EW_region ?_
        refine EL_s rfl rfl rfl (os_assign rfl) ?_
        refine EL_nil ?_
        refine EQ_then (EQ_wp ?_)
        refine EW_ret ?_
        exact pn_ret1 [_, _, _, _, _] Try.results68 (rv_tmp rfl) (.refl _) (Incl.skip (Incl.cons (Incl.cons (Incl.cons (Incl.cons (Incl.cons (Incl.refl _) _) _) _) _) _) _) ⟨(NodeAt.to (Node.mk xr.Term xr.Vote xr.Base xr.BaseTerm xr.Entries xr.id xr.n xr.limit xr.role xr.lead xr.commit xr.clock (Sl.mk xr.votes.h (xr.votes.xs.set ((m.From).toNat) true)) xr.match_ xr.next) hora ho7_7 horc hord (by rw [NodeP.preVoted, if_neg (show ¬ (!m.abs.OK) = true from by simp [Msg.abs, hc7]), if_neg (show ¬ (¬ xr.abs.role = 1 ∨ ¬ m.abs.Term = xr.abs.Term + 1) from (by show ¬ (¬ xr.role = 1 ∨ ¬ m.Term = xr.Term + 1); omega))]; refine Eq.trans ?_ (congrArg _ (if_neg (ne_true_of_eq_false hb50))).symm; rfl)), ⟨(Sl.mk (Hd.mk none 0 0) []), rfl, (FRow.none _ _ _), (by rw [NodeP.preVoted, if_neg (show ¬ (!m.abs.OK) = true from by simp [Msg.abs, hc7]), if_neg (show ¬ (¬ xr.abs.role = 1 ∨ ¬ m.abs.Term = xr.abs.Term + 1) from (by show ¬ (¬ xr.role = 1 ∨ ¬ m.Term = xr.Term + 1); omega))]; refine Eq.trans ?_ (congrArg _ (if_neg (ne_true_of_eq_false hb50))).symm; rfl)⟩⟩ (.inl rfl)


end Go.Proofs.Ytlhibbjnhdcffaa
