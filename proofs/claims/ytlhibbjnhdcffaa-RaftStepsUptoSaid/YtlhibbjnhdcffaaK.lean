/- Proved here: the part K of the proof that the law of this seat returns true for every input; no condition. -/
import Derived.Test.YtlhibbjnhdcffaaH
set_option maxRecDepth 20000
set_option linter.unusedVariables false
set_option linter.unusedSimpArgs false
namespace Go.Proofs.Ytlhibbjnhdcffaa
open Go Go.Gl

theorem extract_min {α : Type} {l : List α} {d n : Nat} (h : n = l.length) : l.extract (min n d) n = l.drop d := by
  subst h
  rw [List.extract_eq_take_drop, List.take_of_length_le (by simp)]
  rcases Nat.le_total d l.length with h | h
  · rw [Nat.min_eq_right h]
  · rw [Nat.min_eq_left h, List.drop_length, List.drop_eq_nil_of_le h]
theorem extract_all {α : Type} {l : List α} {k n : Nat} (h : n = l.length) : l.extract k n = l.drop k := by
  subst h
  rw [List.extract_eq_take_drop, List.take_of_length_le (by simp)]
namespace NodeP
theorem termAt_in {r : NodeP} {i t : Nat} (h : r.termAt i = some t) : r.Base ≤ i ∧ i ≤ r.last := by
  unfold NodeP.termAt at h
  split at h
  · cases h
  · omega
theorem same_step {r : NodeP} {at_ k : Nat} {l : List EntryP} {e : EntryP} (h : l[k]? = some e) (ht : r.termAt (at_ + 1 + k) = some e.Term) (hs : r.same at_ l = k + r.same (at_ + k) (l.drop k)) : r.same at_ l = k + 1 + r.same (at_ + (k + 1)) (l.drop (k + 1)) := by
  rw [hs, drop_of_get h, NodeP.same, if_pos (by rw [show at_ + k + 1 = at_ + 1 + k by omega]; exact ht), show at_ + (k + 1) = at_ + k + 1 by omega]
  omega
theorem same_stop {r : NodeP} {at_ k : Nat} {l : List EntryP} {e : EntryP} (h : l[k]? = some e) (ht : ¬ r.termAt (at_ + 1 + k) = some e.Term) (hs : r.same at_ l = k + r.same (at_ + k) (l.drop k)) : r.same at_ l = k := by
  rw [hs, drop_of_get h, NodeP.same, if_neg (by rw [show at_ + k + 1 = at_ + 1 + k by omega]; exact ht)]
  omega
theorem same_end {r : NodeP} {at_ k : Nat} {l : List EntryP} (hk : k = l.length) (hs : r.same at_ l = k + r.same (at_ + k) (l.drop k)) : r.same at_ l = l.length := by
  rw [hs, hk, List.drop_length]
  show l.length + 0 = _
  omega
theorem lay_all {r : NodeP} {at_ : Nat} {l : List EntryP} (h : r.same at_ l = l.length) : r.lay at_ l = some r := if_pos h
theorem lay_old {r : NodeP} {at_ k : Nat} {l : List EntryP} (h : r.same at_ l = k) (hk : k < l.length) (hc : at_ + 1 + k ≤ r.commit) : r.lay at_ l = none := by
  rw [NodeP.lay, h, if_neg (by omega), if_pos (by omega)]
theorem lay_bad {r : NodeP} {at_ k : Nat} {l : List EntryP} (h : r.same at_ l = k) (hk : k < l.length) (hc : ¬ at_ + 1 + k ≤ r.commit) (hr : risingP (l.drop k) ((r.termAt (at_ + k)).getD 0) r.Term = false) : r.lay at_ l = none := by
  rw [NodeP.lay, h, if_neg (by omega), if_neg (by omega), if_pos (by simp [hr])]
theorem lay_new {r : NodeP} {at_ k : Nat} {l : List EntryP} (h : r.same at_ l = k) (hk : k < l.length) (hc : ¬ at_ + 1 + k ≤ r.commit) (hr : risingP (l.drop k) ((r.termAt (at_ + k)).getD 0) r.Term = true) :
    r.lay at_ l = some { r with Entries := r.Entries.take (at_ + k - r.Base) ++ l.drop k } := by
  rw [NodeP.lay, h, if_neg (by omega), if_neg (by omega), if_neg (by simp [hr])]
end NodeP
set_option maxHeartbeats 1000000 in
theorem n_append {I : Gh} {L : List Seg} {br : Nat} {r : NodeP} {Ssr : List Seg} (hr : NodeAt I br r Ssr) {m : Msg} (hm : Msg.Ok I m) (hp0 : NodeP.Few r) (hp1 : 0 ≤ m.abs.From ∧ m.abs.From < r.n) (hp2 : m.abs.Term ≤ 4611686018427387904) (hp3 : m.abs.Index ≤ 4611686018427387904) (hp4 : m.abs.Entries.length ≤ 1000000000) : PN Try.prog 113 #[.pointer (some ⟨br, 0, none⟩), .agg (m.cells).toArray] I L (Ssr) fun K Ss' v => NodeAt K br ((r.append m.abs).1) Ss' ∧ (∃ (y0 : Sl Msg), v = y0.v ∧ FRow rMsg K [] y0 ∧ y0.xs.map Msg.abs = (r.append m.abs).2) := by
  obtain ⟨xr, Sra, Srb, Src, Srd, rfl, rfl, hora, horb, horc, hord⟩ := hr
  refine PN.of (n := 188) Try.func113 rfl Try.ntmps113 rfl fun I0 L0 hI0 hL0 => ?_
  refine EW_perm (nm_5 _ _ _ _ _ _) ?_
  have hora := hora.mono hI0
  have horb := horb.mono hI0
  have horc := horc.mono hI0
  have hord := hord.mono hI0
  have hm := hm.mono hI0
  have hf0 := hp0
  obtain ⟨hfb, hfl, hft, hid0, hidn, hn5, hlim0, hlim1, hclk0, hclk1, hbt, htrm, hcmt⟩ := hf0
  simp only [Node.abs, List.length_map] at hfb hfl hft hid0 hidn hn5 hlim0 hlim1 hclk0 hclk1 hbt htrm hcmt
  have hltm := NodeP.lastTerm_le hp0
  have hlast : NodeP.last xr.abs = xr.Base + xr.Entries.xs.length := by simp [NodeP.last, Node.abs]
  simp only [Node.abs] at hp1
  simp only [Msg.abs, List.length_map] at hp1 hp2 hp3 hp4
  have hmt := hm.Term
  have hmf := hm.From
  have hml := FRow.len hm.Entries
  have hmw := hm.Entries.few
  simp only [rEntry] at hmw
  refine EW_seq ?_
  -- region 0  raft.go:357
  refine EW_region ?_
  refine EL_a rfl rfl rfl (oa_box rfl) ?_
  intro b3
  refine EL_s rfl rfl rfl (os_assign rfl) ?_
  refine EL_nil ?_
  refine EQ_then (EQ_wp ?_)
  refine EW_seq ?_
  -- region 1  raft.go:358
  refine EW_region ?_
  refine EL_s rfl rfl rfl (os_field rfl fl41_4) ?_
  refine EL_s rfl rfl rfl (os_load_one rfl one22 (cells_own own_head rfl)) ?_
  refine EL_s rfl rfl rfl (os_field rfl fl41_7) ?_
  refine EL_s rfl rfl rfl (os_load_one rfl one34 (cells_own own_head rfl)) ?_
  have hl22 := (show m.Entries.h.n = m.Entries.xs.length from FRow.len hm.Entries)
  refine EL_s rfl rfl rfl (os_len rfl sl34) ?_
  refine EL_s rfl rfl rfl (os_convn (p := m.Entries.h.n) rfl ⟨_, int3⟩ int22 (IntWalk.u64_in _ (by omega))) ?_
  refine EL_s rfl rfl rfl (os_addn (p := m.Index) (q := m.Entries.h.n) rfl rfl (IntWalk.u64_in _ (by omega))) ?_
  refine EL_s rfl rfl rfl (os_assign rfl) ?_
  refine EL_nil ?_
  refine EQ_then (EQ_wp ?_)
  refine EW_seq ?_
  -- region 2 DRAWN  raft.go:359
  refine EW_drawC [] [⟨[], some 25, [0], .s, 0⟩, ⟨[], some 26, [3], .s, 0⟩, ⟨[], some 27, [0], .s, 0⟩, ⟨[2], some 28, [27], .s, 4⟩, ⟨[3], some 29, [28], .s, 12⟩, ⟨[4], some 30, [29], .s, 28⟩, ⟨[5], some 31, [30], .s, 60⟩, ⟨[6], some 32, [31], .s, 124⟩, ⟨[], some 33, [0], .s, 0⟩, ⟨[8], some 34, [33], .s, 256⟩, ⟨[9], some 35, [34], .s, 768⟩, ⟨[10], some 36, [35], .s, 1792⟩, ⟨[7, 11], some 37, [32, 36], .s, 4092⟩, ⟨[0, 1, 12], some 38, [25, 26, 37], .g, 8191⟩, ⟨[13, 13, 0, 1, 2, 3, 4, 5, 6, 7, 8, 9, 10, 11, 12, 13], some 6, [38], .s, 16383⟩] [.s, .s, .s, .s, .s, .s, .s, .s, .s, .s, .s, .s, .s, .g, .s] [0, 1, 2, 3, 4, 5, 6, 7, 8, 9, 10, 11, 12, 13, 14] mixed (by kernel_rfl) (by kernel_rfl) (by kernel_rfl) rfl rfl ?_
  refine EP_s rfl rfl rfl rfl rfl (by exact (os_move rfl)) ?_
  refine EP_s rfl rfl rfl rfl rfl (by exact (os_load_agg (cs := [_, _, _, _, _, _, _, _, _, _]) rfl agg41 (cells_own own_head rfl))) ?_
  refine EP_s rfl rfl rfl rfl rfl (by exact (os_move rfl)) ?_
  refine EP_s rfl rfl rfl rfl rfl (by exact (os_nilCheck rfl)) ?_
  refine EP_s rfl rfl rfl rfl rfl (by exact (os_field rfl fl47_0)) ?_
  refine EP_s rfl rfl rfl rfl rfl (by exact (os_field rfl fl36_0)) ?_
  refine EP_s rfl rfl rfl rfl rfl (by exact (os_field rfl fl33_0)) ?_
  refine EP_s rfl rfl rfl rfl rfl (by exact (os_load_one rfl one22 (cells_own (own_tail own_head) rfl))) ?_
  refine EP_s rfl rfl rfl rfl rfl (by exact (os_move rfl)) ?_
  refine EP_s rfl rfl rfl rfl rfl (by exact (os_nilCheck rfl)) ?_
  refine EP_s rfl rfl rfl rfl rfl (by exact (os_field rfl fl47_6)) ?_
  refine EP_s rfl rfl rfl rfl rfl (by exact (os_load_one rfl one22 (cells_own (own_tail own_head) rfl))) ?_
  refine EP_s rfl rfl rfl rfl rfl (by exact (os_struct (cs := [_, _, _, _, _, _, _, _, _, _]) [(0, _), (3, _), (4, _)] pl41 z41 rfl rfl)) ?_
  have hr_a38_2 : Msg.Ok I0 (Msg.mk 6 0 0 xr.Term xr.commit 0 0 (Sl.mk (Hd.mk none 0 0) []) false (Sl.mk (Hd.mk none 0 0) [])) := ⟨(by first | omega | (dsimp only; omega)), (by first | omega | (dsimp only; omega)), (by first | omega | (dsimp only; omega)), (by first | omega | (dsimp only; omega)), (by first | omega | (dsimp only; omega)), (by first | omega | (dsimp only; omega)), (by first | omega | (dsimp only; omega)), (FRow.none _ _ _), (FRow.none _ _ _)⟩
  refine EP_g rfl rfl rfl rfl rfl (by exact (og_call (vs := [(.pointer (some ⟨br, 0, none⟩)), (.agg (m.cells).toArray), .agg ((Msg.mk 6 0 0 xr.Term xr.commit 0 0 (Sl.mk (Hd.mk none 0 0) []) false (Sl.mk (Hd.mk none 0 0) [])).cells).toArray]) body67 rfl (n_answer (NodeAt.intro xr hora horb horc hord) (incl_mid [_] [_, _, _, _, _] _) hm hr_a38_2 (by first | (simp only [Node.abs]; omega) | (have h1 := hfw.id0; have h2 := hfw.idn; have h3 := hfw.n5; simp only [Node.abs] at h1 h2 h3 ⊢; omega))))) ?_
  intro I38 v38 hI38 hv38
  obtain ⟨y38, rfl, hy38, hay38⟩ := hv38
  refine EP_s rfl rfl rfl rfl rfl (by exact (os_assign rfl)) ?_
  refine EP_nil ?_
  refine EQ_then (EQ_wp ?_)
  refine EW_seq ?_
  -- region 3 DRAWN  raft.go:360
  refine EW_drawC [] [⟨[], some 39, [3], .s, 0⟩, ⟨[0], some 40, [39], .s, 1⟩, ⟨[], some 41, [3], .s, 0⟩, ⟨[2], some 42, [41], .s, 4⟩, ⟨[1, 0, 1], some 7, [40], .s, 3⟩, ⟨[3, 4, 0, 1, 2, 3, 4], some 8, [42], .s, 31⟩] [.s, .s, .s, .s, .s, .s] [0, 1, 2, 3, 4, 5] mixed (by kernel_rfl) (by kernel_rfl) (by kernel_rfl) rfl rfl ?_
  refine EP_s rfl rfl rfl rfl rfl (by exact (os_field rfl fl41_7)) ?_
  refine EP_s rfl rfl rfl rfl rfl (by exact (os_load_one rfl one34 (cells_own own_head rfl))) ?_
  refine EP_s rfl rfl rfl rfl rfl (by exact (os_field rfl fl41_4)) ?_
  refine EP_s rfl rfl rfl rfl rfl (by exact (os_load_one rfl one22 (cells_own own_head rfl))) ?_
  refine EP_s rfl rfl rfl rfl rfl (by exact (os_assign rfl)) ?_
  refine EP_s rfl rfl rfl rfl rfl (by exact (os_assign rfl)) ?_
  refine EP_nil ?_
  refine EQ_then (EQ_wp ?_)
  refine EW_seq_cut (σ := (Sl Entry) × Nat) (fun ⟨es, at_⟩ => [(0, (.pointer (some ⟨br, 0, none⟩))), (3, (.pointer (some ⟨b3, 0, none⟩))), (5, (.int .u64 (((m.Index + m.Entries.h.n) : Nat) : Int))), (7, (es.v)), (8, (.int .u64 ((at_ : Nat) : Int)))]) (fun ⟨es, at_⟩ => I38) (fun ⟨es, at_⟩ => [(b3, .cells #[(.int .i64 m.Kind), (.int .i64 m.From), (.int .i64 m.To), (.int .u64 ((m.Term : Nat) : Int)), (.int .u64 ((m.Index : Nat) : Int)), (.int .u64 ((m.LogTerm : Nat) : Int)), (.int .u64 ((m.Commit : Nat) : Int)), (m.Entries.v), (.bool m.OK), (m.Data.v)] 41)] :: [(br, .cells (xr.cells).toArray 47)] :: Sra :: Srb :: Src :: Srd :: L0) (fun ⟨es, at_⟩ => FRow rEntry I38 [] es ∧ es.xs.map Entry.abs = m.abs.Entries.drop (xr.abs.Base - m.abs.Index) ∧ at_ = max m.Index xr.Base ∧ at_ ≤ xr.abs.last ∧ (m.abs.Index < xr.abs.Base ∨ xr.abs.termAt m.abs.Index = some m.abs.LogTerm)) ?_ ?_
  · skip
    refine EW_seq ?_
    -- region 4  raft.go:361
    refine EW_region ?_
    refine EL_s rfl rfl rfl (os_move rfl) ?_
    refine EL_s rfl rfl rfl (os_move rfl) ?_
    refine EL_s rfl rfl rfl (os_nilCheck rfl) ?_
    refine EL_s rfl rfl rfl (os_field rfl fl47_0) ?_
    refine EL_s rfl rfl rfl (os_field rfl fl36_1) ?_
    refine EL_s rfl rfl rfl (os_load_one rfl one22 (cells_own (own_tail own_head) rfl)) ?_
    refine EL_s rfl rfl rfl (os_lss rfl rfl) ?_
    refine EL_nil ?_
    refine EQ_then (EQ_wp ?_)
    refine EW_cond rfl (fun hc49 => ?_) (fun hc49 => ?_)
    · have hb49 := hc49
      try simp only [Bool.or_eq_true, Bool.and_eq_true, Bool.or_eq_false_iff, Bool.and_eq_false_iff, decide_eq_true_eq, decide_eq_false_iff_not, Bool.not_eq_true', Bool.not_eq_false', Int.natCast_inj, Int.ofNat_lt, Int.ofNat_le] at hc49
      refine EW_seq ?_
      -- region 5  raft.go:362
      refine EW_region ?_
      refine EL_s rfl rfl rfl (os_move rfl) ?_
      refine EL_s rfl rfl rfl (os_move rfl) ?_
      have hl52 := (show m.Entries.h.n = m.Entries.xs.length from FRow.len hm.Entries)
      refine EL_s rfl rfl rfl (os_len rfl sl34) ?_
      refine EL_s rfl rfl rfl (os_convn (p := m.Entries.h.n) rfl ⟨_, int3⟩ int22 (IntWalk.u64_in _ (by omega))) ?_
      refine EL_s rfl rfl rfl (os_move rfl) ?_
      refine EL_s rfl rfl rfl (os_nilCheck rfl) ?_
      refine EL_s rfl rfl rfl (os_field rfl fl47_0) ?_
      refine EL_s rfl rfl rfl (os_field rfl fl36_1) ?_
      refine EL_s rfl rfl rfl (os_load_one rfl one22 (cells_own (own_tail own_head) rfl)) ?_
      refine EL_s rfl rfl rfl (os_move rfl) ?_
      refine EL_s rfl rfl rfl (os_subn (p := xr.Base) (q := m.Index) rfl rfl (by omega) (IntWalk.u64_in _ (by omega))) ?_
      refine EL_s rfl rfl rfl (os_minn (p := m.Entries.h.n) (q := (xr.Base - m.Index)) rfl rfl) ?_
      have hl62 := (show m.Entries.h.n = m.Entries.xs.length from FRow.len hm.Entries)
      have hn62 := (show m.Entries.h.n ≤ m.Entries.h.c from FRow.nle hm.Entries)
      have hs62 := (FRow.subS (l := (min m.Entries.h.n (xr.Base - m.Index))) (u := m.Entries.h.n) 2 rfl hm.Entries (by omega) (by omega))
      refine EL_s rfl rfl rfl (os_sub_slice (k := .u64) (k' := .i64) (min m.Entries.h.n (xr.Base - m.Index)) m.Entries.h.n rfl sl34 ⟨_, rfl, by omega⟩ rfl (by omega) (by omega)) ?_
      refine EL_s rfl rfl rfl (os_assign rfl) ?_
      refine EL_nil ?_
      refine EQ_then (EQ_wp ?_)
      -- region 6  raft.go:363
      refine EW_region ?_
      refine EL_s rfl rfl rfl (os_move rfl) ?_
      refine EL_s rfl rfl rfl (os_nilCheck rfl) ?_
      refine EL_s rfl rfl rfl (os_field rfl fl47_0) ?_
      refine EL_s rfl rfl rfl (os_field rfl fl36_1) ?_
      refine EL_s rfl rfl rfl (os_load_one rfl one22 (cells_own (own_tail own_head) rfl)) ?_
      refine EL_s rfl rfl rfl (os_assign rfl) ?_
      refine EL_nil ?_
      refine EQ_cut ((subSl 2 m.Entries (min m.Entries.h.n (xr.Base - m.Index)) m.Entries.h.n), xr.Base) ?_ ?_ ?_
      · exact ⟨(FRow.mono hs62 hI38 (Incl.nil _)), by rw [show m.abs.Entries.drop (xr.abs.Base - m.abs.Index) = (m.Entries.xs.drop (xr.Base - m.Index)).map Entry.abs from List.map_drop.symm]; exact congrArg _ (extract_min hml), by omega, by omega, .inl hc49⟩
      · exact ⟨rfl, rfl, rfl, rfl, rfl, trivial⟩
      · exact fun w h => h.incl (Incl.cons (Incl.cons (Incl.cons (Incl.cons (Incl.cons (Incl.cons (Incl.refl _) _) _) _) _) _) _)
    · have hb49 := hc49
      try simp only [Bool.or_eq_true, Bool.and_eq_true, Bool.or_eq_false_iff, Bool.and_eq_false_iff, decide_eq_true_eq, decide_eq_false_iff_not, Bool.not_eq_true', Bool.not_eq_false', Int.natCast_inj, Int.ofNat_lt, Int.ofNat_le] at hc49
      refine EW_seq ?_
      -- region 7  raft.go:364
      refine EW_region ?_
      refine EL_s rfl rfl rfl (os_move rfl) ?_
      refine EL_s rfl rfl rfl (os_move rfl) ?_
      refine EL_s rfl rfl rfl (os_call (vs := [(.pointer (some ⟨br, 0, none⟩)), (.int .u64 ((m.Index : Nat) : Int))]) body23 rfl (n_TermAt (NodeAt.intro xr (hora.mono hI38) (horb.mono hI38) (horc.mono hI38) (hord.mono hI38)) (incl_mid [_] [_, _, _, _, _] _) m.Index (by exact hp0))) ?_
      refine EL_s rfl rfl rfl (os_move rfl) ?_
      refine EL_s rfl rfl rfl (os_extract rfl rfl) ?_
      refine EL_s rfl rfl rfl (os_extract rfl rfl) ?_
      refine EL_s rfl rfl rfl (os_assign rfl) ?_
      refine EL_s rfl rfl rfl (os_assign rfl) ?_
      refine EL_nil ?_
      refine EQ_then (EQ_wp ?_)
      refine EW_seq ?_
      -- region 8  raft.go:364
      refine EW_region ?_
      refine EL_s rfl rfl rfl (os_move rfl) ?_
      refine EL_s rfl rfl rfl (os_not rfl) ?_
      refine EL_s rfl rfl rfl (os_move rfl) ?_
      refine EL_joint 5 81 (.bool ((!(((xr.abs).termAt m.Index).isSome)) || (!decide ((((((xr.abs).termAt m.Index).getD 0) : Nat) : Int) = ((m.LogTerm : Nat) : Int))))) ?_ ?_
      · skip
        refine ES_case (!(((xr.abs).termAt m.Index).isSome)) (fun hg76 => ?_) (fun hg76 => ?_)
        · have hg76_ := hg76
          try simp only [Bool.or_eq_true, Bool.and_eq_true, Bool.or_eq_false_iff, Bool.and_eq_false_iff, decide_eq_true_eq, decide_eq_false_iff_not, Bool.not_eq_true', Bool.not_eq_false', Int.natCast_inj, Int.ofNat_lt, Int.ofNat_le] at hg76_
          refine ES_no rfl hg76 rfl rfl rfl rfl ?_
          refine ES_no rfl hg76 rfl rfl rfl rfl ?_
          refine ES_no rfl hg76 rfl rfl rfl rfl ?_
          refine ES_no rfl hg76 rfl rfl rfl rfl ?_
          refine ES_s rfl rfl rfl (os_pick_t' rfl hg76 rfl) ?_
          exact ES_fin 5 rfl rfl (by rw [hg76]; rfl)
        · have hg76_ := hg76
          try simp only [Bool.or_eq_true, Bool.and_eq_true, Bool.or_eq_false_iff, Bool.and_eq_false_iff, decide_eq_true_eq, decide_eq_false_iff_not, Bool.not_eq_true', Bool.not_eq_false', Int.natCast_inj, Int.ofNat_lt, Int.ofNat_le] at hg76_
          refine ES_yes (j := 2) (b := false) rfl rfl rfl hg76 rfl rfl (os_move rfl) ?_
          refine ES_yes (j := 2) (b := false) rfl rfl rfl hg76 rfl rfl (os_field rfl fl41_5) ?_
          refine ES_yes (j := 2) (b := false) rfl rfl rfl hg76 rfl rfl (os_load_one rfl one22 (cells_own own_head rfl)) ?_
          refine ES_yes (j := 2) (b := false) rfl rfl rfl hg76 rfl rfl (os_neq rfl rfl) ?_
          refine ES_s rfl rfl rfl (os_pick_f' rfl hg76 rfl) ?_
          exact ES_fin 5 rfl rfl (by rw [hg76]; rfl)
      refine EL_nil ?_
      refine EQ_then (EQ_wp ?_)
      refine EW_cond rfl (fun hc81 => ?_) (fun hc81 => ?_)
      · have hb81 := hc81
        try simp only [Bool.or_eq_true, Bool.and_eq_true, Bool.or_eq_false_iff, Bool.and_eq_false_iff, decide_eq_true_eq, decide_eq_false_iff_not, Bool.not_eq_true', Bool.not_eq_false', Int.natCast_inj, Int.ofNat_lt, Int.ofNat_le] at hc81
        refine EW_seq ?_
        -- region 9  raft.go:365
        refine EW_region ?_
        refine EL_s rfl rfl rfl (os_move rfl) ?_
        refine EL_s rfl rfl rfl (os_assign rfl) ?_
        refine EL_nil ?_
        refine EQ_then (EQ_wp ?_)
        refine EW_ret ?_
        refine EQ_then_ret (?_)
        exact pn_ret1 [_, _, _, _, _] Try.results113 (rv_tmp rfl) hI38 (Incl.skip (Incl.cons (Incl.cons (Incl.cons (Incl.cons (Incl.cons (Incl.refl _) _) _) _) _) _) _) ⟨(NodeAt.to xr (hora.mono hI38) (horb.mono hI38) (horc.mono hI38) (hord.mono hI38) (by rw [NodeP.append, if_neg (show ¬ (m.abs.Index < xr.abs.Base ∨ xr.abs.termAt m.abs.Index = some m.abs.LogTerm) from (by rintro (h | h); (have h2 : m.Index < xr.Base := h; omega); (rw [show xr.abs.termAt m.Index = some m.LogTerm from h] at hc81; simp at hc81)))]; first | done | rfl | exact hay38)), ⟨y38, rfl, (FRow.mono hy38 (.refl _) (.refl _)), (by rw [NodeP.append, if_neg (show ¬ (m.abs.Index < xr.abs.Base ∨ xr.abs.termAt m.abs.Index = some m.abs.LogTerm) from (by rintro (h | h); (have h2 : m.Index < xr.Base := h; omega); (rw [show xr.abs.termAt m.Index = some m.LogTerm from h] at hc81; simp at hc81)))]; first | done | rfl | exact hay38)⟩⟩ (.inl rfl)
      · have hb81 := hc81
        try simp only [Bool.or_eq_true, Bool.and_eq_true, Bool.or_eq_false_iff, Bool.and_eq_false_iff, decide_eq_true_eq, decide_eq_false_iff_not, Bool.not_eq_true', Bool.not_eq_false', Int.natCast_inj, Int.ofNat_lt, Int.ofNat_le] at hc81
        refine EW_skip ?_
        refine EQ_cut (m.Entries, m.Index) ?_ ?_ ?_
        · exact ⟨(FRow.mono hm.Entries hI38 (Incl.nil _)), by rw [show xr.abs.Base - m.abs.Index = 0 from (by show xr.Base - m.Index = 0; omega)]; rfl, by omega, (NodeP.termAt_in (opt_eq hc81.1 hc81.2)).2, .inr (opt_eq hc81.1 hc81.2)⟩
        · exact ⟨rfl, rfl, rfl, rfl, rfl, trivial⟩
        · exact fun w h => h.incl (Incl.cons (Incl.cons (Incl.cons (Incl.cons (Incl.cons (Incl.cons (Incl.refl _) _) _) _) _) _) _)
  · rintro ⟨es, at_⟩ ⟨hes, hle, hat, hatl, hcon⟩
    have hel := FRow.len hes
    have hef := hes.few
    simp only [rEntry] at hef
    have hlel : es.xs.length = (m.abs.Entries.drop (xr.abs.Base - m.abs.Index)).length := by rw [← hle, List.length_map]
    have hes9 : es.xs.length ≤ 1000000000 := by rw [hlel, List.length_drop]; simp only [Msg.abs, List.length_map]; omega
    refine EW_seq_cut (σ := Gh × (Sl Entry) × Seg) (fun ⟨IC2, es2, S⟩ => [(0, (.pointer (some ⟨br, 0, none⟩))), (3, (.pointer (some ⟨b3, 0, none⟩))), (5, (.int .u64 (((m.Index + m.Entries.h.n) : Nat) : Int)))]) (fun ⟨IC2, es2, S⟩ => IC2) (fun ⟨IC2, es2, S⟩ => [(b3, .cells #[(.int .i64 m.Kind), (.int .i64 m.From), (.int .i64 m.To), (.int .u64 ((m.Term : Nat) : Int)), (.int .u64 ((m.Index : Nat) : Int)), (.int .u64 ((m.LogTerm : Nat) : Int)), (.int .u64 ((m.Commit : Nat) : Int)), (m.Entries.v), (.bool m.OK), (m.Data.v)] 41)] :: [(br, .cells #[(.int .u64 ((xr.Term : Nat) : Int)), (.int .i64 xr.Vote), (.int .u64 ((xr.Base : Nat) : Int)), (.int .u64 ((xr.BaseTerm : Nat) : Int)), (es2.v), (.int .i64 xr.id), (.int .i64 xr.n), (.int .i64 xr.limit), (.int .i64 xr.role), (.int .i64 xr.lead), (.int .u64 ((xr.commit : Nat) : Int)), (.int .i64 xr.clock), (xr.votes.v), (xr.match_.v), (xr.next.v)] 47)] :: S :: Srb :: Src :: Srd :: L0) (fun ⟨IC2, es2, S⟩ => I38.le IC2 ∧ OwnR rEntry IC2 125 es2 S ∧ xr.abs.lay (max m.abs.Index xr.abs.Base) (m.abs.Entries.drop (xr.abs.Base - m.abs.Index)) = some { xr.abs with Entries := es2.xs.map Entry.abs }) ?_ ?_
    · skip
      refine EW_seq ?_
      -- region 10  raft.go:367
      refine EW_region ?_
      refine EL_s rfl rfl rfl (os_move rfl) ?_
      have hl84 := (show es.h.n = es.xs.length from FRow.len hes)
      refine EL_s rfl rfl rfl (os_len rfl sl34) ?_
      refine EL_s rfl rfl rfl (os_move rfl) ?_
      refine EL_nil ?_
      refine EQ_then (EQ_wp ?_)
      refine EW_block ?_
      refine EW_loop (σ := Nat) (fun k => [(0, (.pointer (some ⟨br, 0, none⟩))), (3, (.pointer (some ⟨b3, 0, none⟩))), (5, (.int .u64 (((m.Index + m.Entries.h.n) : Nat) : Int))), (7, (es.v)), (8, (.int .u64 ((at_ : Nat) : Int))), (83, (es.v)), (84, (.int .i64 ((es.h.n : Nat) : Int))), (85, (.int .i64 ((k : Nat) : Int)))]) (fun k => I38) (fun k => [(b3, .cells #[(.int .i64 m.Kind), (.int .i64 m.From), (.int .i64 m.To), (.int .u64 ((m.Term : Nat) : Int)), (.int .u64 ((m.Index : Nat) : Int)), (.int .u64 ((m.LogTerm : Nat) : Int)), (.int .u64 ((m.Commit : Nat) : Int)), (m.Entries.v), (.bool m.OK), (m.Data.v)] 41)] :: [(br, .cells (xr.cells).toArray 47)] :: Sra :: Srb :: Src :: Srd :: L0) (fun k => k ≤ es.xs.length ∧ xr.abs.same at_ (es.xs.map Entry.abs) = k + xr.abs.same (at_ + k) ((es.xs.map Entry.abs).drop k) ∧ at_ + k ≤ xr.abs.last) (fun k => es.xs.length - k) (0) ⟨Nat.zero_le _, by simp, hatl⟩ ⟨rfl, rfl, rfl, rfl, rfl, rfl, rfl, rfl, trivial⟩ (fun w h => h) ?_
      rintro k ⟨hk, hsm, hkl⟩
      refine EW_seq ?_
      -- region 11  raft.go:367
      refine EW_region ?_
      refine EL_s rfl rfl rfl (os_lss rfl rfl) ?_
      refine EL_nil ?_
      refine EQ_then (EQ_wp ?_)
      refine EW_seq ?_
      refine EW_cond rfl (fun hc86 => ?_) (fun hc86 => ?_)
      · have hb86 := hc86
        try simp only [Bool.or_eq_true, Bool.and_eq_true, Bool.or_eq_false_iff, Bool.and_eq_false_iff, decide_eq_true_eq, decide_eq_false_iff_not, Bool.not_eq_true', Bool.not_eq_false', Int.natCast_inj, Int.ofNat_lt, Int.ofNat_le] at hc86
        refine EW_skip ?_
        refine EQ_then (EQ_wp ?_)
        refine EW_seq ?_
        refine EW_block ?_
        refine EW_seq ?_
        -- region 12  raft.go:367
        refine EW_region ?_
        refine EL_s rfl rfl rfl (os_move rfl) ?_
        have hl88 := (show es.h.n = es.xs.length from FRow.len hes)
        obtain ⟨x88, hx88⟩ := get_some (l := es.xs) (k := k) (by first | omega | (simp only [List.length_set, List.length_replicate, List.length_cons, List.length_nil]; omega) | (simp <;> omega))
        refine EL_s rfl rfl rfl (os_at (m := es.h.n) (k) rfl rfl (by omega) sl34 (by omega) (by have hz_ := FRow.some hes (by show 0 < es.h.n; omega); exact hz_)) ?_
        have hxe : (es.xs.map Entry.abs)[k]? = some x88.abs := by simp [hx88]
        have hk89 := FRow.okAt hes hx88
        refine EL_s rfl rfl rfl (os_load_agg (cs := rEntry.cells x88) rfl agg125 (FRow.whole (FRow.mono hes (.refl _) (Incl.nil _)) hx88)) ?_
        refine EL_a rfl rfl rfl (oa_alloc z125) ?_
        intro b12
        refine EL_s rfl rfl rfl (os_assign rfl) ?_
        refine EL_u rfl rfl (ox_store rfl rfl sz125 rfl (by rfl) (.head .head)) ?_
        refine EL_nil ?_
        refine EQ_then (EQ_wp ?_)
        refine EW_seq ?_
        -- region 13  raft.go:368
        refine EW_region ?_
        refine EL_s rfl rfl rfl (os_move rfl) ?_
        refine EL_s rfl rfl rfl (os_addn (p := at_) (q := 1) rfl rfl (IntWalk.u64_in _ (by omega))) ?_
        refine EL_s rfl rfl rfl (os_move rfl) ?_
        refine EL_s rfl rfl rfl (os_convn (p := k) rfl ⟨_, int3⟩ int22 (IntWalk.u64_in _ (by omega))) ?_
        refine EL_s rfl rfl rfl (os_addn (p := (at_ + 1)) (q := k) rfl rfl (IntWalk.u64_in _ (by omega))) ?_
        refine EL_s rfl rfl rfl (os_assign rfl) ?_
        refine EL_nil ?_
        refine EQ_then (EQ_wp ?_)
        refine EW_seq ?_
        refine EW_seq ?_
        -- region 14  raft.go:369
        refine EW_region ?_
        refine EL_s rfl rfl rfl (os_move rfl) ?_
        refine EL_s rfl rfl rfl (os_move rfl) ?_
        refine EL_s rfl rfl rfl (os_call (vs := [(.pointer (some ⟨br, 0, none⟩)), (.int .u64 ((((at_ + 1) + k) : Nat) : Int))]) body23 rfl (n_TermAt (NodeAt.intro xr (hora.mono hI38) (horb.mono hI38) (horc.mono hI38) (hord.mono hI38)) (incl_mid [_, _] [_, _, _, _, _] _) ((at_ + 1) + k) (by exact hp0))) ?_
        refine EL_s rfl rfl rfl (os_move rfl) ?_
        refine EL_s rfl rfl rfl (os_extract rfl rfl) ?_
        refine EL_s rfl rfl rfl (os_extract rfl rfl) ?_
        refine EL_s rfl rfl rfl (os_assign rfl) ?_
        refine EL_s rfl rfl rfl (os_assign rfl) ?_
        refine EL_nil ?_
        refine EQ_then (EQ_wp ?_)
        refine EW_seq ?_
        -- region 15  raft.go:369
        refine EW_region ?_
        refine EL_s rfl rfl rfl (os_move rfl) ?_
        refine EL_s rfl rfl rfl (os_move rfl) ?_
        refine EL_joint 5 107 (.bool ((((xr.abs).termAt ((at_ + 1) + k)).isSome) && (decide ((((((xr.abs).termAt ((at_ + 1) + k)).getD 0) : Nat) : Int) = ((x88.Term : Nat) : Int))))) ?_ ?_
        · skip
          refine ES_case (((xr.abs).termAt ((at_ + 1) + k)).isSome) (fun hg102 => ?_) (fun hg102 => ?_)
          · have hg102_ := hg102
            try simp only [Bool.or_eq_true, Bool.and_eq_true, Bool.or_eq_false_iff, Bool.and_eq_false_iff, decide_eq_true_eq, decide_eq_false_iff_not, Bool.not_eq_true', Bool.not_eq_false', Int.natCast_inj, Int.ofNat_lt, Int.ofNat_le] at hg102_
            refine ES_yes (j := 1) (b := true) rfl rfl rfl hg102 rfl rfl (os_move rfl) ?_
            refine ES_yes (j := 1) (b := true) rfl rfl rfl hg102 rfl rfl (os_field rfl fl125_0) ?_
            refine ES_yes (j := 1) (b := true) rfl rfl rfl hg102 rfl rfl (os_load_one rfl one22 (cells_own own_head rfl)) ?_
            refine ES_yes (j := 1) (b := true) rfl rfl rfl hg102 rfl rfl (os_eql rfl rfl) ?_
            refine ES_s rfl rfl rfl (os_pick_t' rfl hg102 rfl) ?_
            exact ES_fin 5 rfl rfl (by rw [hg102]; rfl)
          · have hg102_ := hg102
            try simp only [Bool.or_eq_true, Bool.and_eq_true, Bool.or_eq_false_iff, Bool.and_eq_false_iff, decide_eq_true_eq, decide_eq_false_iff_not, Bool.not_eq_true', Bool.not_eq_false', Int.natCast_inj, Int.ofNat_lt, Int.ofNat_le] at hg102_
            refine ES_no rfl hg102 rfl rfl rfl rfl ?_
            refine ES_no rfl hg102 rfl rfl rfl rfl ?_
            refine ES_no rfl hg102 rfl rfl rfl rfl ?_
            refine ES_no rfl hg102 rfl rfl rfl rfl ?_
            refine ES_s rfl rfl rfl (os_pick_f' rfl hg102 rfl) ?_
            exact ES_fin 5 rfl rfl (by rw [hg102]; rfl)
        refine EL_nil ?_
        refine EQ_then (EQ_wp ?_)
        refine EW_cond rfl (fun hc107 => ?_) (fun hc107 => ?_)
        · have hb107 := hc107
          try simp only [Bool.or_eq_true, Bool.and_eq_true, Bool.or_eq_false_iff, Bool.and_eq_false_iff, decide_eq_true_eq, decide_eq_false_iff_not, Bool.not_eq_true', Bool.not_eq_false', Int.natCast_inj, Int.ofNat_lt, Int.ofNat_le] at hc107
          refine EW_exit ?_
          refine EQ_then_exit (EQ_block_exit (?_))
          refine EQ_then (EQ_wp ?_)
          -- region 22  raft.go:367
          refine EW_region ?_
          refine EL_s rfl rfl rfl (os_addn (p := k) (q := 1) rfl rfl (IntWalk.i64_in _ (by omega))) ?_
          refine EL_s rfl rfl rfl (os_move rfl) ?_
          refine EL_nil ?_
          refine EQ_round ((k + 1)) ?_ ?_ ?_ ?_
          · exact ⟨by omega, NodeP.same_step hxe (opt_eq hc107.1 hc107.2) hsm, by have hz := (NodeP.termAt_in (opt_eq hc107.1 hc107.2)).2; omega⟩
          · first | omega | (dsimp only; omega)
          · exact ⟨rfl, rfl, rfl, rfl, rfl, rfl, rfl, rfl, trivial⟩
          · exact fun w h => h.incl (Incl.skip (Incl.cons (Incl.cons (Incl.cons (Incl.cons (Incl.cons (Incl.cons (Incl.refl _) _) _) _) _) _) _) _)
        · have hb107 := hc107
          try simp only [Bool.or_eq_true, Bool.and_eq_true, Bool.or_eq_false_iff, Bool.and_eq_false_iff, decide_eq_true_eq, decide_eq_false_iff_not, Bool.not_eq_true', Bool.not_eq_false', Int.natCast_inj, Int.ofNat_lt, Int.ofNat_le] at hc107
          refine EW_skip ?_
          refine EQ_then (EQ_wp ?_)
          refine EW_seq ?_
          refine EW_seq ?_
          -- region 16  raft.go:372
          refine EW_region ?_
          have hst := NodeP.same_stop hxe (fun h => by rw [h] at hc107; simp [Entry.abs] at hc107) hsm
          have hkl2 : k < (es.xs.map Entry.abs).length := by rw [List.length_map]; omega
          refine EL_s rfl rfl rfl (os_move rfl) ?_
          refine EL_s rfl rfl rfl (os_move rfl) ?_
          refine EL_s rfl rfl rfl (os_nilCheck rfl) ?_
          refine EL_s rfl rfl rfl (os_field rfl fl47_6) ?_
          refine EL_s rfl rfl rfl (os_load_one rfl one22 (cells_own (own_tail (own_tail own_head)) rfl)) ?_
          refine EL_s rfl rfl rfl (os_leq rfl rfl) ?_
          refine EL_nil ?_
          refine EQ_then (EQ_wp ?_)
          refine EW_cond rfl (fun hc113 => ?_) (fun hc113 => ?_)
          · have hb113 := hc113
            try simp only [Bool.or_eq_true, Bool.and_eq_true, Bool.or_eq_false_iff, Bool.and_eq_false_iff, decide_eq_true_eq, decide_eq_false_iff_not, Bool.not_eq_true', Bool.not_eq_false', Int.natCast_inj, Int.ofNat_lt, Int.ofNat_le] at hc113
            refine EW_seq ?_
            -- region 17  raft.go:373
            refine EW_region ?_
            refine EL_s rfl rfl rfl (os_assign rfl) ?_
            refine EL_nil ?_
            refine EQ_then (EQ_wp ?_)
            refine EW_ret ?_
            refine EQ_then_ret (EQ_block_ret (EQ_then_ret (EQ_then_ret (EQ_block_ret (EQ_then_ret (?_))))))
            exact pn_ret1 [_, _, _, _, _] Try.results113 (rv_tmp rfl) hI38 (Incl.skip (Incl.skip (Incl.cons (Incl.cons (Incl.cons (Incl.cons (Incl.cons (Incl.refl _) _) _) _) _) _) _) _) ⟨(NodeAt.to xr (hora.mono hI38) (horb.mono hI38) (horc.mono hI38) (hord.mono hI38) (by rw [NodeP.append, if_pos hcon, ← hle, show max m.abs.Index xr.abs.Base = at_ from hat.symm, NodeP.lay_old hst hkl2 hc113]; first | done | rfl)), ⟨(Sl.mk (Hd.mk none 0 0) []), rfl, (FRow.none _ _ _), (by rw [NodeP.append, if_pos hcon, ← hle, show max m.abs.Index xr.abs.Base = at_ from hat.symm, NodeP.lay_old hst hkl2 hc113]; first | done | rfl)⟩⟩ (.inl rfl)
          · have hb113 := hc113
            try simp only [Bool.or_eq_true, Bool.and_eq_true, Bool.or_eq_false_iff, Bool.and_eq_false_iff, decide_eq_true_eq, decide_eq_false_iff_not, Bool.not_eq_true', Bool.not_eq_false', Int.natCast_inj, Int.ofNat_lt, Int.ofNat_le] at hc113
            refine EW_skip ?_
            refine EQ_then (EQ_wp ?_)
            refine EW_seq ?_
            -- region 18  raft.go:375
            refine EW_region ?_
            refine EL_s rfl rfl rfl (os_move rfl) ?_
            refine EL_s rfl rfl rfl (os_move rfl) ?_
            refine EL_s rfl rfl rfl (os_subn (p := ((at_ + 1) + k)) (q := 1) rfl rfl (by omega) (IntWalk.u64_in _ (by omega))) ?_
            refine EL_s rfl rfl rfl (os_call (vs := [(.pointer (some ⟨br, 0, none⟩)), (.int .u64 (((((at_ + 1) + k) - 1) : Nat) : Int))]) body23 rfl (n_TermAt (NodeAt.intro xr (hora.mono hI38) (horb.mono hI38) (horc.mono hI38) (hord.mono hI38)) (incl_mid [_, _] [_, _, _, _, _] _) (((at_ + 1) + k) - 1) (by exact hp0))) ?_
            refine EL_s rfl rfl rfl (os_move rfl) ?_
            refine EL_s rfl rfl rfl (os_extract rfl rfl) ?_
            refine EL_s rfl rfl rfl (os_extract rfl rfl) ?_
            refine EL_s rfl rfl rfl (os_assign rfl) ?_
            refine EL_s rfl rfl rfl (os_assign rfl) ?_
            refine EL_nil ?_
            refine EQ_then (EQ_wp ?_)
            refine EW_seq ?_
            refine EW_seq ?_
            -- region 19 DRAWN  raft.go:376
            refine EW_drawC [] [⟨[], some 121, [7], .s, 0⟩, ⟨[], some 122, [11], .s, 0⟩, ⟨[0, 1], some 123, [121, 122], .s, 3⟩, ⟨[], some 124, [16], .s, 0⟩, ⟨[], some 125, [0], .s, 0⟩, ⟨[4], some 126, [125], .s, 16⟩, ⟨[5], some 127, [126], .s, 48⟩, ⟨[6], some 128, [127], .s, 112⟩, ⟨[7], some 129, [128], .s, 240⟩, ⟨[8], some 130, [129], .s, 496⟩, ⟨[2, 3, 9], some 131, [123, 124, 130], .s, 1023⟩, ⟨[10], some 132, [131], .s, 2047⟩] [.s, .s, .s, .s, .s, .s, .s, .s, .s, .s, .s, .s] [0, 1, 2, 3, 4, 5, 6, 7, 8, 9, 10, 11] mixed (by kernel_rfl) (by kernel_rfl) (by kernel_rfl) rfl rfl ?_
            refine EP_s rfl rfl rfl rfl rfl (by exact (os_move rfl)) ?_
            refine EP_s rfl rfl rfl rfl rfl (by exact (os_move rfl)) ?_
            have hl123 := (show es.h.n = es.xs.length from FRow.len hes)
            have hn123 := (show es.h.n ≤ es.h.c from FRow.nle hes)
            have hs123 := (FRow.subS (l := k) (u := es.h.n) 2 rfl hes (by omega) (by omega))
            refine EP_s rfl rfl rfl rfl rfl (by exact (os_sub_slice (k := .i64) (k' := .i64) k es.h.n rfl sl34 ⟨_, rfl, by omega⟩ rfl (by omega) (by omega))) ?_
            have hdr : (subSl 2 es k es.h.n).xs.map Entry.abs = (es.xs.map Entry.abs).drop k := by rw [← List.map_drop]; exact congrArg _ (extract_all hel)
            refine EP_s rfl rfl rfl rfl rfl (by exact (os_move rfl)) ?_
            refine EP_s rfl rfl rfl rfl rfl (by exact (os_move rfl)) ?_
            refine EP_s rfl rfl rfl rfl rfl (by exact (os_nilCheck rfl)) ?_
            refine EP_s rfl rfl rfl rfl rfl (by exact (os_field rfl fl47_0)) ?_
            refine EP_s rfl rfl rfl rfl rfl (by exact (os_field rfl fl36_0)) ?_
            refine EP_s rfl rfl rfl rfl rfl (by exact (os_field rfl fl33_0)) ?_
            refine EP_s rfl rfl rfl rfl rfl (by exact (os_load_one rfl one22 (cells_own (own_tail (own_tail own_head)) rfl))) ?_
            refine EP_s rfl rfl rfl rfl rfl (by exact (os_call (vs := [((subSl 2 es k es.h.n).v), (.int .u64 (((((xr.abs).termAt (((at_ + 1) + k) - 1)).getD 0) : Nat) : Int)), (.int .u64 ((xr.Term : Nat) : Int))]) body63 rfl (rising (FRow.mono hs123 (.refl _) (Incl.nil _)) (((xr.abs).termAt (((at_ + 1) + k) - 1)).getD 0) xr.Term))) ?_
            refine EP_s rfl rfl rfl rfl rfl (by exact (os_not rfl)) ?_
            refine EP_nil ?_
            refine EQ_then (EQ_wp ?_)
            refine EW_cond rfl (fun hc132 => ?_) (fun hc132 => ?_)
            · have hb132 := hc132
              try simp only [Bool.or_eq_true, Bool.and_eq_true, Bool.or_eq_false_iff, Bool.and_eq_false_iff, decide_eq_true_eq, decide_eq_false_iff_not, Bool.not_eq_true', Bool.not_eq_false', Int.natCast_inj, Int.ofNat_lt, Int.ofNat_le] at hc132
              rw [hdr, show at_ + 1 + k - 1 = at_ + k by omega] at hc132
              refine EW_seq ?_
              -- region 20  raft.go:377
              refine EW_region ?_
              refine EL_s rfl rfl rfl (os_assign rfl) ?_
              refine EL_nil ?_
              refine EQ_then (EQ_wp ?_)
              refine EW_ret ?_
              refine EQ_then_ret (EQ_block_ret (EQ_then_ret (EQ_then_ret (EQ_block_ret (EQ_then_ret (?_))))))
              exact pn_ret1 [_, _, _, _, _] Try.results113 (rv_tmp rfl) hI38 (Incl.skip (Incl.skip (Incl.cons (Incl.cons (Incl.cons (Incl.cons (Incl.cons (Incl.refl _) _) _) _) _) _) _) _) ⟨(NodeAt.to xr (hora.mono hI38) (horb.mono hI38) (horc.mono hI38) (hord.mono hI38) (by rw [NodeP.append, if_pos hcon, ← hle, show max m.abs.Index xr.abs.Base = at_ from hat.symm, NodeP.lay_bad hst hkl2 (show ¬ at_ + 1 + k ≤ xr.abs.commit from (by show ¬ _ ≤ xr.commit; omega)) hc132]; first | done | rfl)), ⟨(Sl.mk (Hd.mk none 0 0) []), rfl, (FRow.none _ _ _), (by rw [NodeP.append, if_pos hcon, ← hle, show max m.abs.Index xr.abs.Base = at_ from hat.symm, NodeP.lay_bad hst hkl2 (show ¬ at_ + 1 + k ≤ xr.abs.commit from (by show ¬ _ ≤ xr.commit; omega)) hc132]; first | done | rfl)⟩⟩ (.inl rfl)
            · have hb132 := hc132
              try simp only [Bool.or_eq_true, Bool.and_eq_true, Bool.or_eq_false_iff, Bool.and_eq_false_iff, decide_eq_true_eq, decide_eq_false_iff_not, Bool.not_eq_true', Bool.not_eq_false', Int.natCast_inj, Int.ofNat_lt, Int.ofNat_le] at hc132
              rw [hdr, show at_ + 1 + k - 1 = at_ + k by omega] at hc132
              refine EW_skip ?_
              refine EQ_then (EQ_wp ?_)
              refine EW_seq ?_
              -- region 21 DRAWN  raft.go:379
              refine EW_drawC [] [⟨[], some 133, [0], .r, 0⟩, ⟨[], some 134, [0], .r, 0⟩, ⟨[1], some 135, [134], .r, 2⟩, ⟨[2], some 136, [135], .r, 6⟩, ⟨[3], some 137, [136], .r, 14⟩, ⟨[4], some 138, [137], .s, 30⟩, ⟨[], some 139, [13], .r, 0⟩, ⟨[], some 140, [0], .r, 0⟩, ⟨[7], some 141, [140], .r, 128⟩, ⟨[8], some 142, [141], .r, 384⟩, ⟨[9], some 143, [142], .r, 896⟩, ⟨[10], some 144, [143], .s, 1920⟩, ⟨[6, 11], some 145, [139, 144], .r, 4032⟩, ⟨[12], some 146, [145], .r, 8128⟩, ⟨[], some 147, [13], .r, 0⟩, ⟨[], some 148, [0], .r, 0⟩, ⟨[15], some 149, [148], .r, 32768⟩, ⟨[16], some 150, [149], .r, 98304⟩, ⟨[17], some 151, [150], .r, 229376⟩, ⟨[18], some 152, [151], .s, 491520⟩, ⟨[14, 19], some 153, [147, 152], .r, 1032192⟩, ⟨[20], some 154, [153], .r, 2080768⟩, ⟨[5, 13, 21], some 155, [138, 146, 154], .r, 4194302⟩, ⟨[], some 156, [7], .r, 0⟩, ⟨[], some 157, [11], .r, 0⟩, ⟨[23, 24], some 158, [156, 157], .r, 25165824⟩, ⟨[25], some 159, [158], .g, 58720256⟩, ⟨[22, 26, 26], some 160, [155, 159], .y, 134217726⟩, ⟨[0, 0, 1, 2, 3, 4, 5, 6, 7, 8, 9, 10, 11, 12, 13, 14, 15, 16, 17, 18, 19, 20, 21, 22, 23, 24, 25, 26, 27], some 161, [133], .r, 268435455⟩, ⟨[28, 0, 1, 2, 3, 4, 5, 6, 7, 8, 9, 10, 11, 12, 13, 14, 15, 16, 17, 18, 19, 20, 21, 22, 23, 24, 25, 26, 27], some 162, [161], .r, 536870911⟩, ⟨[29, 0, 1, 2, 3, 4, 5, 6, 7, 8, 9, 10, 11, 12, 13, 14, 15, 16, 17, 18, 19, 20, 21, 22, 23, 24, 25, 26, 27], some 163, [162], .r, 1073741823⟩, ⟨[30, 27, 27, 0, 1, 2, 3, 4, 5, 6, 7, 8, 9, 10, 11, 12, 13, 14, 15, 16, 17, 18, 19, 20, 21, 22, 23, 24, 25, 26, 27], none, [163, 160], .y, 2147483647⟩] [.r, .r, .r, .r, .r, .s, .r, .r, .r, .r, .r, .s, .r, .r, .r, .r, .r, .r, .r, .s, .r, .r, .r, .r, .r, .r, .g, .y, .r, .r, .r, .y] [0, 1, 2, 3, 4, 5, 6, 7, 8, 9, 10, 11, 12, 13, 14, 15, 16, 17, 18, 19, 20, 21, 22, 23, 24, 25, 26, 27, 28, 29, 30, 31] mixed (by kernel_rfl) (by kernel_rfl) (by kernel_rfl) rfl rfl ?_
              refine EP_r rfl rfl rfl rfl rfl (Incl.nil _) (by exact (os_move rfl)) ?_
              refine EP_r rfl rfl rfl rfl rfl (Incl.nil _) (by exact (os_move rfl)) ?_
              refine EP_r rfl rfl rfl rfl rfl (Incl.nil _) (by exact (os_nilCheck rfl)) ?_
              refine EP_r rfl rfl rfl rfl rfl (Incl.nil _) (by exact (os_field rfl fl47_0)) ?_
              refine EP_r rfl rfl rfl rfl rfl (Incl.nil _) (by exact (os_field rfl fl36_3)) ?_
              refine EP_s rfl rfl rfl rfl rfl (by exact (os_load_one rfl one34 (cells_own (own_tail (own_tail own_head)) rfl))) ?_
              refine EP_r rfl rfl rfl rfl rfl (Incl.nil _) (by exact (os_move rfl)) ?_
              refine EP_r rfl rfl rfl rfl rfl (Incl.nil _) (by exact (os_move rfl)) ?_
              refine EP_r rfl rfl rfl rfl rfl (Incl.nil _) (by exact (os_nilCheck rfl)) ?_
              refine EP_r rfl rfl rfl rfl rfl (Incl.nil _) (by exact (os_field rfl fl47_0)) ?_
              refine EP_r rfl rfl rfl rfl rfl (Incl.nil _) (by exact (os_field rfl fl36_1)) ?_
              refine EP_s rfl rfl rfl rfl rfl (by exact (os_load_one rfl one22 (cells_own (own_tail (own_tail own_head)) rfl))) ?_
              refine EP_r rfl rfl rfl rfl rfl (Incl.nil _) (by exact (os_subn (p := ((at_ + 1) + k)) (q := xr.Base) rfl rfl (by omega) (IntWalk.u64_in _ (by omega)))) ?_
              refine EP_r rfl rfl rfl rfl rfl (Incl.nil _) (by exact (os_subn (p := (((at_ + 1) + k) - xr.Base)) (q := 1) rfl rfl (by omega) (IntWalk.u64_in _ (by omega)))) ?_
              refine EP_r rfl rfl rfl rfl rfl (Incl.nil _) (by exact (os_move rfl)) ?_
              refine EP_r rfl rfl rfl rfl rfl (Incl.nil _) (by exact (os_move rfl)) ?_
              refine EP_r rfl rfl rfl rfl rfl (Incl.nil _) (by exact (os_nilCheck rfl)) ?_
              refine EP_r rfl rfl rfl rfl rfl (Incl.nil _) (by exact (os_field rfl fl47_0)) ?_
              refine EP_r rfl rfl rfl rfl rfl (Incl.nil _) (by exact (os_field rfl fl36_1)) ?_
              refine EP_s rfl rfl rfl rfl rfl (by exact (os_load_one rfl one22 (cells_own (own_tail (own_tail own_head)) rfl))) ?_
              refine EP_r rfl rfl rfl rfl rfl (Incl.nil _) (by exact (os_subn (p := ((at_ + 1) + k)) (q := xr.Base) rfl rfl (by omega) (IntWalk.u64_in _ (by omega)))) ?_
              refine EP_r rfl rfl rfl rfl rfl (Incl.nil _) (by exact (os_subn (p := (((at_ + 1) + k) - xr.Base)) (q := 1) rfl rfl (by omega) (IntWalk.u64_in _ (by omega)))) ?_
              have hl155 := (show xr.Entries.h.n = xr.Entries.xs.length from OwnR.len hora)
              have hn155 := (show xr.Entries.h.n ≤ xr.Entries.h.c from OwnR.nle hora)
              have hs155 := (FRow.subS3 (l := 0) (u := ((((at_ + 1) + k) - xr.Base) - 1)) (c := ((((at_ + 1) + k) - xr.Base) - 1)) 2 rfl (OwnR.frowS hora) (by omega) (by omega) (by omega) (by omega))
              refine EP_r rfl rfl rfl rfl rfl (Incl.nil _) (by exact (os_slice3z ((((at_ + 1) + k) - xr.Base) - 1) ((((at_ + 1) + k) - xr.Base) - 1) rfl rfl rfl sl34 (by omega) (by omega) (by omega) (by omega))) ?_
              refine EP_r rfl rfl rfl rfl rfl (Incl.nil _) (by exact (os_move rfl)) ?_
              refine EP_r rfl rfl rfl rfl rfl (Incl.nil _) (by exact (os_move rfl)) ?_
              have hl158 := (show es.h.n = es.xs.length from FRow.len hes)
              have hn158 := (show es.h.n ≤ es.h.c from FRow.nle hes)
              have hs158 := (FRow.subS (l := k) (u := es.h.n) 2 rfl hes (by omega) (by omega))
              refine EP_r rfl rfl rfl rfl rfl (Incl.nil _) (by exact (os_sub_slice (k := .i64) (k' := .i64) k es.h.n rfl sl34 ⟨_, rfl, by omega⟩ rfl (by omega) (by omega))) ?_
              refine EP_g rfl rfl rfl rfl rfl (by exact (og_call (vs := [((subSl 2 es k es.h.n).v)]) body64 rfl (twins (FRow.mono hs158 (.refl _) (Incl.nil _))))) ?_
              intro I159 v159 hI159 hv159
              obtain ⟨y159, rfl, hy159, hay159⟩ := hv159
              have hy159l : y159.xs.length = es.xs.length - k := by have hz := congrArg List.length hay159; rw [hdr] at hz; simpa using hz
              have hu155 : ((subSl3 2 xr.Entries 0 ((((at_ + 1) + k) - xr.Base) - 1) ((((at_ + 1) + k) - xr.Base) - 1))).xs.length ≤ xr.Entries.xs.length := by simp [subSl3, List.extract_eq_take_drop]; omega
              have hu2 : ((subSl3 2 xr.Entries 0 ((((at_ + 1) + k) - xr.Base) - 1) ((((at_ + 1) + k) - xr.Base) - 1))).xs.map Entry.abs = xr.abs.Entries.take (at_ + k - xr.abs.Base) := by simp [subSl3, List.extract_eq_take_drop, Node.abs, List.map_take, show at_ + 1 + k - xr.Base - 1 = at_ + k - xr.Base by omega]
              refine EP_k rfl rfl rfl rfl rfl (by exact (ox_app_new (R := rEntry) (bytes := 32) (s := (subSl3 2 xr.Entries 0 ((((at_ + 1) + k) - xr.Base) - 1) ((((at_ + 1) + k) - xr.Base) - 1))) (s' := y159) 2 rfl rfl rfl rfl sl34 z125 rfl (FRow.mono hs155 (hI38.trans hI159) (incl_mid [_, _, _] [_] _)) rfl (FRow.mono hy159 (.refl _) (Incl.nil _)) (by omega) (by first | omega | (simp only [List.length_cons, List.length_nil, Nat.zero_add]; omega)) (by unfold maxLen; first | omega | (simp only [List.length_cons, List.length_nil, Nat.zero_add]; omega)))) (fun _ _ _ => Incl.nil _) ?_
              rintro L160 v160 ⟨s160, S160, rfl, rfl, hx160, ho160⟩
              refine EP_r rfl rfl rfl rfl rfl (Incl.nil _) (by exact (os_nilCheck rfl)) ?_
              refine EP_r rfl rfl rfl rfl rfl (Incl.nil _) (by exact (os_field rfl fl47_0)) ?_
              refine EP_r rfl rfl rfl rfl rfl (Incl.nil _) (by exact (os_field rfl fl36_3)) ?_
              refine EP_ku rfl rfl rfl rfl (by exact (ox_store rfl rfl sz34 rfl (by rfl) (.tail (.tail (.tail (.head .head)))))) (Incl.nil _) ?_
              refine EP_nil ?_
              refine EQ_then (EQ_wp ?_)
              refine EW_exit ?_
              refine EQ_block_other rfl (EQ_then_exit (EQ_then_exit (EQ_block_exit (?_))))
              refine EQ_perm (mv_7 _ _ _ _ _ _ _ _ _) ?_
              refine EQ_perm (mv_7 _ _ _ _ _ _ _ _ _) ?_
              refine EQ_perm (mv_7 _ _ _ _ _ _ _ _ _) ?_
              refine EQ_perm (mv_3 _ _ _ _ _) ?_
              refine EQ_perm (mv_6 _ _ _ _ _ _ _ _) ?_
              refine EQ_perm (mv_6 _ _ _ _ _ _ _ _) ?_
              refine EQ_cut (I159, s160, S160) ?_ ?_ ?_
              · exact ⟨hI159, ⟨ho160, by rw [← hle, show max m.abs.Index xr.abs.Base = at_ from hat.symm, NodeP.lay_new hst hkl2 (show ¬ at_ + 1 + k ≤ xr.abs.commit from (by show ¬ _ ≤ xr.commit; omega)) hc132, hx160, List.map_append, hay159, hdr, hu2]⟩⟩
              · exact ⟨rfl, rfl, rfl, trivial⟩
              · exact fun w h => h.incl (Incl.cons (Incl.cons (Incl.cons (Incl.cons (Incl.cons (Incl.cons (Incl.skip (Incl.skip (Incl.refl _) _) _) _) _) _) _) _) _)
      · have hb86 := hc86
        try simp only [Bool.or_eq_true, Bool.and_eq_true, Bool.or_eq_false_iff, Bool.and_eq_false_iff, decide_eq_true_eq, decide_eq_false_iff_not, Bool.not_eq_true', Bool.not_eq_false', Int.natCast_inj, Int.ofNat_lt, Int.ofNat_le] at hc86
        refine EW_exit ?_
        refine EQ_then_exit (EQ_then_exit (EQ_block_exit (?_)))
        refine EQ_cut (I38, xr.Entries, Sra) ?_ ?_ ?_
        · exact ⟨(.refl _), ⟨hora.mono hI38, by rw [← hle, show max m.abs.Index xr.abs.Base = at_ from hat.symm, NodeP.lay_all (NodeP.same_end (by rw [List.length_map]; omega) hsm)]; rfl⟩⟩
        · exact ⟨rfl, rfl, rfl, trivial⟩
        · exact fun w h => h.incl (Incl.cons (Incl.cons (Incl.cons (Incl.cons (Incl.cons (Incl.cons (Incl.refl _) _) _) _) _) _) _)
    · rintro ⟨IC2, es2, S⟩ ⟨hIC2, ⟨hos, hlay⟩⟩
      refine EW_seq ?_
      -- region 23 DRAWN  raft.go:382
      refine EW_drawC [] [⟨[], some 165, [0], .s, 0⟩, ⟨[], some 166, [0], .s, 0⟩, ⟨[1], some 167, [166], .s, 2⟩, ⟨[2], some 168, [167], .s, 6⟩, ⟨[3], some 169, [168], .s, 14⟩, ⟨[], some 170, [3], .s, 0⟩, ⟨[5], some 171, [170], .s, 32⟩, ⟨[], some 172, [5], .s, 0⟩, ⟨[6, 7], some 173, [171, 172], .s, 224⟩, ⟨[4, 8], some 174, [169, 173], .s, 510⟩, ⟨[0, 0, 1, 2, 3, 4, 5, 6, 7, 8, 9], some 175, [165], .s, 1023⟩, ⟨[10, 0, 1, 2, 3, 4, 5, 6, 7, 8, 9], some 176, [175], .s, 2047⟩, ⟨[11, 9, 0, 1, 2, 3, 4, 5, 6, 7, 8, 9], none, [176, 174], .x, 4095⟩] [.s, .s, .s, .s, .s, .s, .s, .s, .s, .s, .s, .s, .x] [0, 1, 2, 3, 4, 5, 6, 7, 8, 9, 10, 11, 12] mixed (by kernel_rfl) (by kernel_rfl) (by kernel_rfl) rfl rfl ?_
      refine EP_s rfl rfl rfl rfl rfl (by exact (os_move rfl)) ?_
      refine EP_s rfl rfl rfl rfl rfl (by exact (os_move rfl)) ?_
      refine EP_s rfl rfl rfl rfl rfl (by exact (os_nilCheck rfl)) ?_
      refine EP_s rfl rfl rfl rfl rfl (by exact (os_field rfl fl47_6)) ?_
      refine EP_s rfl rfl rfl rfl rfl (by exact (os_load_one rfl one22 (cells_own (own_tail own_head) rfl))) ?_
      refine EP_s rfl rfl rfl rfl rfl (by exact (os_field rfl fl41_6)) ?_
      refine EP_s rfl rfl rfl rfl rfl (by exact (os_load_one rfl one22 (cells_own own_head rfl))) ?_
      refine EP_s rfl rfl rfl rfl rfl (by exact (os_move rfl)) ?_
      refine EP_s rfl rfl rfl rfl rfl (by exact (os_minn (p := m.Commit) (q := (m.Index + m.Entries.h.n)) rfl rfl)) ?_
      refine EP_s rfl rfl rfl rfl rfl (by exact (os_maxn (p := xr.commit) (q := (min m.Commit (m.Index + m.Entries.h.n))) rfl rfl)) ?_
      refine EP_s rfl rfl rfl rfl rfl (by exact (os_nilCheck rfl)) ?_
      refine EP_s rfl rfl rfl rfl rfl (by exact (os_field rfl fl47_6)) ?_
      refine EP_u rfl rfl rfl rfl (by exact (ox_store rfl rfl sz22 rfl (by rfl) (.tail (.head .head)))) ?_
      refine EP_nil ?_
      refine EQ_then (EQ_wp ?_)
      refine EW_seq ?_
      -- region 24 DRAWN  raft.go:383
      refine EW_drawC [] [⟨[], some 177, [0], .s, 0⟩, ⟨[], some 178, [3], .s, 0⟩, ⟨[], some 179, [0], .s, 0⟩, ⟨[2], some 180, [179], .s, 4⟩, ⟨[3], some 181, [180], .s, 12⟩, ⟨[4], some 182, [181], .s, 28⟩, ⟨[5], some 183, [182], .s, 60⟩, ⟨[6], some 184, [183], .s, 124⟩, ⟨[], some 185, [5], .s, 0⟩, ⟨[7, 8], some 186, [184, 185], .s, 508⟩, ⟨[0, 1, 9], some 187, [177, 178, 186], .g, 1023⟩, ⟨[10, 10, 0, 1, 2, 3, 4, 5, 6, 7, 8, 9, 10], some 4, [187], .s, 2047⟩] [.s, .s, .s, .s, .s, .s, .s, .s, .s, .s, .g, .s] [0, 1, 2, 3, 4, 5, 6, 7, 8, 9, 10, 11] mixed (by kernel_rfl) (by kernel_rfl) (by kernel_rfl) rfl rfl ?_
      refine EP_s rfl rfl rfl rfl rfl (by exact (os_move rfl)) ?_
      refine EP_s rfl rfl rfl rfl rfl (by exact (os_load_agg (cs := [_, _, _, _, _, _, _, _, _, _]) rfl agg41 (cells_own own_head rfl))) ?_
      refine EP_s rfl rfl rfl rfl rfl (by exact (os_move rfl)) ?_
      refine EP_s rfl rfl rfl rfl rfl (by exact (os_nilCheck rfl)) ?_
      refine EP_s rfl rfl rfl rfl rfl (by exact (os_field rfl fl47_0)) ?_
      refine EP_s rfl rfl rfl rfl rfl (by exact (os_field rfl fl36_0)) ?_
      refine EP_s rfl rfl rfl rfl rfl (by exact (os_field rfl fl33_0)) ?_
      refine EP_s rfl rfl rfl rfl rfl (by exact (os_load_one rfl one22 (cells_own (own_tail own_head) rfl))) ?_
      refine EP_s rfl rfl rfl rfl rfl (by exact (os_move rfl)) ?_
      refine EP_s rfl rfl rfl rfl rfl (by exact (os_struct (cs := [_, _, _, _, _, _, _, _, _, _]) [(0, _), (3, _), (8, _), (4, _)] pl41 z41 rfl rfl)) ?_
      have hr_a187_2 : Msg.Ok IC2 (Msg.mk 6 0 0 xr.Term (m.Index + m.Entries.h.n) 0 0 (Sl.mk (Hd.mk none 0 0) []) true (Sl.mk (Hd.mk none 0 0) [])) := ⟨(by first | omega | (dsimp only; omega)), (by first | omega | (dsimp only; omega)), (by first | omega | (dsimp only; omega)), (by first | omega | (dsimp only; omega)), (by first | omega | (dsimp only; omega)), (by first | omega | (dsimp only; omega)), (by first | omega | (dsimp only; omega)), (FRow.none _ _ _), (FRow.none _ _ _)⟩
      refine EP_g rfl rfl rfl rfl rfl (by exact (og_call (vs := [(.pointer (some ⟨br, 0, none⟩)), (.agg (m.cells).toArray), .agg ((Msg.mk 6 0 0 xr.Term (m.Index + m.Entries.h.n) 0 0 (Sl.mk (Hd.mk none 0 0) []) true (Sl.mk (Hd.mk none 0 0) [])).cells).toArray]) body67 rfl (n_answer (NodeAt.intro (Node.mk xr.Term xr.Vote xr.Base xr.BaseTerm es2 xr.id xr.n xr.limit xr.role xr.lead (max xr.commit (min m.Commit (m.Index + m.Entries.h.n))) xr.clock xr.votes xr.match_ xr.next) hos (horb.mono (hI38.trans hIC2)) (horc.mono (hI38.trans hIC2)) (hord.mono (hI38.trans hIC2))) (incl_mid [_] [_, _, _, _, _] _) (hm.mono (hI38.trans hIC2)) hr_a187_2 (by first | (simp only [Node.abs]; omega) | (have h1 := hfw.id0; have h2 := hfw.idn; have h3 := hfw.n5; simp only [Node.abs] at h1 h2 h3 ⊢; omega))))) ?_
      intro I187 v187 hI187 hv187
      obtain ⟨y187, rfl, hy187, hay187⟩ := hv187
      refine EP_s rfl rfl rfl rfl rfl (by exact (os_assign rfl)) ?_
      refine EP_nil ?_
      refine EQ_then (EQ_wp ?_)
      refine EW_ret ?_
      exact pn_ret1 [_, _, _, _, _] Try.results113 (rv_tmp rfl) (hI38.trans (hIC2.trans hI187)) (Incl.skip (Incl.cons (Incl.cons (Incl.cons (Incl.cons (Incl.cons (Incl.refl _) _) _) _) _) _) _) ⟨(NodeAt.to (Node.mk xr.Term xr.Vote xr.Base xr.BaseTerm es2 xr.id xr.n xr.limit xr.role xr.lead (max xr.commit (min m.Commit (m.Index + m.Entries.h.n))) xr.clock xr.votes xr.match_ xr.next) (hos.mono hI187) (horb.mono (hI38.trans (hIC2.trans hI187))) (horc.mono (hI38.trans (hIC2.trans hI187))) (hord.mono (hI38.trans (hIC2.trans hI187))) (by rw [NodeP.append, if_pos hcon, hlay]; first | (simp only [Node.abs, Msg.abs, List.length_map, hml]; done) | (rw [hml] at hay187; rw [hay187]; simp only [NodeP.reply, NodeP.msg, Msg.abs, Node.abs, List.length_map, List.map_nil]; done))), ⟨y187, rfl, (FRow.mono hy187 (.refl _) (.refl _)), (by rw [NodeP.append, if_pos hcon, hlay]; first | (simp only [Node.abs, Msg.abs, List.length_map, hml]; done) | (rw [hml] at hay187; rw [hay187]; simp only [NodeP.reply, NodeP.msg, Msg.abs, Node.abs, List.length_map, List.map_nil]; done))⟩⟩ (.inl rfl)


end Go.Proofs.Ytlhibbjnhdcffaa
