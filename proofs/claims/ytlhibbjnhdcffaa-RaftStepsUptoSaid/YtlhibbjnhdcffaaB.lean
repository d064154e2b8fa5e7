/- Proved here: the part B of the proof that the law of this seat returns true for every input; no condition. -/
import Derived.Test.YtlhibbjnhdcffaaA
set_option maxRecDepth 20000
set_option linter.unusedVariables false
set_option linter.unusedSimpArgs false
namespace Go.Proofs.Ytlhibbjnhdcffaa
open Go Go.Gl

theorem n_most {I : Gh} {L : List Seg} {br : Nat} {r : NodeP} {Ssr : List Seg} (hr : NodeAt I br r Ssr) (hSsr : Incl Ssr L) {s : Sl Bool} (hs : FRow rBool I L s) : PC Try.prog 110 #[.pointer (some ⟨br, 0, none⟩), s.v] I L fun K v => v = .bool (r.most s.xs) := by
  obtain ⟨xr, Sra, Srb, Src, Srd, rfl, rfl, hora, horb, horc, hord⟩ := hr
  refine PC.of (n := 25) Try.func110 rfl Try.ntmps110 rfl fun I0 L0 hI0 hL0 => ?_
  have hora := hora.mono hI0
  have horb := horb.mono hI0
  have horc := horc.mono hI0
  have hord := hord.mono hI0
  have hLbr := hSsr.trans hL0
  have hs := FRow.mono hs hI0 hL0
  have hl_s := FRow.len hs
  have hf_s := hs.few
  simp only [rBool] at hf_s
  simp only [Nat.mul_one] at hf_s
  refine EW_seq ?_
  -- region 0  raft.go:175
  refine EW_region ?_
  refine EL_s rfl rfl rfl (os_assign rfl) ?_
  refine EL_nil ?_
  refine EQ_then (EQ_wp ?_)
  refine EW_seq ?_
  -- region 1  raft.go:176
  refine EW_region ?_
  refine EL_s rfl rfl rfl (os_assign rfl) ?_
  refine EL_nil ?_
  refine EQ_then (EQ_wp ?_)
  refine EW_seq ?_
  refine EW_seq ?_
  -- region 2  raft.go:177
  refine EW_region ?_
  refine EL_s rfl rfl rfl (os_move rfl) ?_
  have hl9 := (show s.h.n = s.xs.length from FRow.len hs)
  refine EL_s rfl rfl rfl (os_len rfl sl45) ?_
  refine EL_s rfl rfl rfl (os_move rfl) ?_
  refine EL_nil ?_
  refine EQ_then (EQ_wp ?_)
  refine EW_block ?_
  refine EW_loop (σ := Nat × Nat) (fun ⟨k, c⟩ => [(0, (.pointer (some ⟨br, 0, none⟩))), (5, (.int .i64 ((c : Nat) : Int))), (8, (s.v)), (9, (.int .i64 ((s.h.n : Nat) : Int))), (10, (.int .i64 ((k : Nat) : Int)))]) (fun ⟨k, c⟩ => I0) (fun ⟨k, c⟩ => L0) (fun ⟨k, c⟩ => k ≤ s.xs.length ∧ c = (s.xs.take k).count true) (fun ⟨k, c⟩ => s.xs.length - k) (0, 0) ⟨Nat.zero_le _, by simp⟩ ⟨rfl, rfl, rfl, rfl, rfl, trivial⟩ (fun w h => h) ?_
  rintro ⟨k, c⟩ ⟨hk, hc⟩
  have hcl : c ≤ s.xs.length := by rw [hc]; exact Nat.le_trans List.count_le_length (by simp; omega)
  refine EW_seq ?_
  -- region 3  raft.go:177
  refine EW_region ?_
  refine EL_s rfl rfl rfl (os_lss rfl rfl) ?_
  refine EL_nil ?_
  refine EQ_then (EQ_wp ?_)
  refine EW_seq ?_
  refine EW_cond rfl (fun hc11 => ?_) (fun hc11 => ?_)
  · have hb11 := hc11
    try simp only [Bool.or_eq_true, Bool.and_eq_true, Bool.or_eq_false_iff, Bool.and_eq_false_iff, decide_eq_true_eq, decide_eq_false_iff_not, Bool.not_eq_true', Bool.not_eq_false', Int.natCast_inj, Int.ofNat_lt, Int.ofNat_le] at hc11
    refine EW_skip ?_
    refine EQ_then (EQ_wp ?_)
    refine EW_seq ?_
    refine EW_block ?_
    refine EW_seq ?_
    -- region 4  raft.go:177
    refine EW_region ?_
    have hl12 := (show s.h.n = s.xs.length from FRow.len hs)
    obtain ⟨x12, hx12⟩ := get_some (l := s.xs) (k := k) (by first | omega | (simp only [List.length_set, List.length_replicate, List.length_cons, List.length_nil]; omega) | (simp <;> omega))
    refine EL_s rfl rfl rfl (os_at (m := s.h.n) (k) rfl rfl (by omega) sl45 (by omega) (by have hz_ := FRow.some hs (by show 0 < s.h.n; omega); exact hz_)) ?_
    refine EL_s rfl rfl rfl (os_load_one rfl one4 (FRow.whole (FRow.mono hs (.refl _) (Incl.refl _)) hx12)) ?_
    refine EL_s rfl rfl rfl (os_assign rfl) ?_
    refine EL_nil ?_
    refine EQ_then (EQ_wp ?_)
    refine EW_seq ?_
    -- region 5  raft.go:178
    refine EW_region ?_
    refine EL_s rfl rfl rfl (os_move rfl) ?_
    refine EL_nil ?_
    refine EQ_then (EQ_wp ?_)
    refine EW_cond rfl (fun hc14 => ?_) (fun hc14 => ?_)
    · have hb14 := hc14
      try simp only [Bool.or_eq_true, Bool.and_eq_true, Bool.or_eq_false_iff, Bool.and_eq_false_iff, decide_eq_true_eq, decide_eq_false_iff_not, Bool.not_eq_true', Bool.not_eq_false', Int.natCast_inj, Int.ofNat_lt, Int.ofNat_le] at hc14
      -- region 6  raft.go:179
      refine EW_region ?_
      refine EL_s rfl rfl rfl (os_move rfl) ?_
      refine EL_s rfl rfl rfl (os_addn (p := c) (q := 1) rfl rfl (IntWalk.i64_in _ (by omega))) ?_
      refine EL_s rfl rfl rfl (os_assign rfl) ?_
      refine EL_nil ?_
      refine EQ_block_normal ?_
      refine EQ_then (EQ_wp ?_)
      -- region 7  raft.go:177
      refine EW_region ?_
      refine EL_s rfl rfl rfl (os_addn (p := k) (q := 1) rfl rfl (IntWalk.i64_in _ (by omega))) ?_
      refine EL_s rfl rfl rfl (os_move rfl) ?_
      refine EL_nil ?_
      refine EQ_round ((k + 1), (c + 1)) ?_ ?_ ?_ ?_
      · exact ⟨by omega, by rw [hc, List.take_add_one, hx12, hc14]; simp⟩
      · first | omega | (dsimp only; omega)
      · exact ⟨rfl, rfl, rfl, rfl, rfl, trivial⟩
      · exact fun w h => h.incl (Incl.refl _)
    · have hb14 := hc14
      try simp only [Bool.or_eq_true, Bool.and_eq_true, Bool.or_eq_false_iff, Bool.and_eq_false_iff, decide_eq_true_eq, decide_eq_false_iff_not, Bool.not_eq_true', Bool.not_eq_false', Int.natCast_inj, Int.ofNat_lt, Int.ofNat_le] at hc14
      refine EW_skip ?_
      refine EQ_block_normal ?_
      refine EQ_then (EQ_wp ?_)
      -- region 7  raft.go:177
      refine EW_region ?_
      refine EL_s rfl rfl rfl (os_addn (p := k) (q := 1) rfl rfl (IntWalk.i64_in _ (by omega))) ?_
      refine EL_s rfl rfl rfl (os_move rfl) ?_
      refine EL_nil ?_
      refine EQ_round ((k + 1), c) ?_ ?_ ?_ ?_
      · exact ⟨by omega, by rw [hc, List.take_add_one, hx12, hc14]; simp⟩
      · first | omega | (dsimp only; omega)
      · exact ⟨rfl, rfl, rfl, rfl, rfl, trivial⟩
      · exact fun w h => h.incl (Incl.refl _)
  · have hb11 := hc11
    try simp only [Bool.or_eq_true, Bool.and_eq_true, Bool.or_eq_false_iff, Bool.and_eq_false_iff, decide_eq_true_eq, decide_eq_false_iff_not, Bool.not_eq_true', Bool.not_eq_false', Int.natCast_inj, Int.ofNat_lt, Int.ofNat_le] at hc11
    refine EW_exit ?_
    refine EQ_then_exit (EQ_then_exit (EQ_block_exit (?_)))
    refine EQ_then (EQ_wp ?_)
    refine EW_seq ?_
    -- region 8  raft.go:182
    refine EW_region ?_
    refine EL_s rfl rfl rfl (os_move rfl) ?_
    refine EL_s rfl rfl rfl (os_muln (p := 2) (q := c) rfl rfl (IntWalk.i64_in _ (by omega))) ?_
    refine EL_s rfl rfl rfl (os_move rfl) ?_
    refine EL_s rfl rfl rfl (os_nilCheck rfl) ?_
    refine EL_s rfl rfl rfl (os_field rfl fl47_2) ?_
    refine EL_s rfl rfl rfl (os_load_one rfl one3 (cells_own (hLbr.mem own_head) rfl)) ?_
    refine EL_s rfl rfl rfl (os_gtr rfl rfl) ?_
    refine EL_s rfl rfl rfl (os_assign rfl) ?_
    refine EL_nil ?_
    refine EQ_then (EQ_wp ?_)
    refine EW_ret ?_
    exact pc_ret1 Try.results110 (rv_tmp rfl) (.refl _) (Incl.refl _) (by rw [List.take_of_length_le (by omega)] at hc; rw [hc]; refine congrArg Value.bool ?_; rw [Bool.eq_iff_iff]; simp only [NodeP.most, decide_eq_true_eq]; simp [Node.abs]) (.inl rfl)

theorem n_proper {I : Gh} {L : List Seg} {br : Nat} {r : NodeP} {Ssr : List Seg} (hr : NodeAt I br r Ssr) (hSsr : Incl Ssr L) {m : Msg} (hm : Msg.Ok I m) : PC Try.prog 65 #[.pointer (some ⟨br, 0, none⟩), .agg (m.cells).toArray] I L fun K v => v = .bool (r.proper m.abs) := by
  obtain ⟨xr, Sra, Srb, Src, Srd, rfl, rfl, hora, horb, horc, hord⟩ := hr
  refine PC.of (n := 60) Try.func65 rfl Try.ntmps65 rfl fun I0 L0 hI0 hL0 => ?_
  have hora := hora.mono hI0
  have horb := horb.mono hI0
  have horc := horc.mono hI0
  have hord := hord.mono hI0
  have hLbr := hSsr.trans hL0
  have hm := hm.mono hI0
  have hmt := hm.Term
  refine EW_seq ?_
  -- region 0  raft.go:266
  refine EW_region ?_
  refine EL_a rfl rfl rfl (oa_box rfl) ?_
  intro b3
  refine EL_s rfl rfl rfl (os_assign rfl) ?_
  refine EL_nil ?_
  refine EQ_then (EQ_wp ?_)
  refine EW_seq ?_
  refine EW_seq ?_
  -- region 1 DRAWN  raft.go:267
  refine EW_drawC [] [⟨[], some 5, [3], .s, 0⟩, ⟨[0], some 6, [5], .s, 1⟩, ⟨[1], some 7, [6], .s, 3⟩, ⟨[2], some 8, [7], .s, 7⟩, ⟨[3], some 9, [3, 8], .s, 15⟩, ⟨[4, 3], some 10, [9, 8], .s, 31⟩, ⟨[3], some 11, [0, 8], .s, 15⟩, ⟨[6, 3], some 12, [11, 8], .s, 79⟩, ⟨[7, 3], some 13, [12, 8], .s, 207⟩, ⟨[8, 3], some 14, [13, 8], .s, 463⟩, ⟨[5, 9, 3], some 15, [10, 14, 8], .s, 1023⟩, ⟨[3, 10], some 16, [8, 15], .s, 2047⟩, ⟨[11, 3], some 17, [16], .s, 4095⟩, ⟨[12], some 18, [3, 17], .s, 8191⟩, ⟨[13, 12], some 19, [18, 17], .s, 16383⟩, ⟨[12], some 20, [0, 17], .s, 8191⟩, ⟨[15, 12], some 21, [20, 17], .s, 40959⟩, ⟨[16, 12], some 22, [21, 17], .s, 106495⟩, ⟨[17, 12], some 23, [22, 17], .s, 237567⟩, ⟨[14, 18, 12], some 24, [19, 23, 17], .s, 524287⟩, ⟨[12, 19], some 25, [17, 24], .s, 1048575⟩, ⟨[20, 12], some 26, [25], .s, 2097151⟩, ⟨[21], some 27, [3, 26], .s, 4194303⟩, ⟨[22, 21], some 28, [27, 26], .s, 8388607⟩, ⟨[21], some 29, [0, 26], .s, 4194303⟩, ⟨[24, 21], some 30, [29, 26], .s, 20971519⟩, ⟨[25, 21], some 31, [30, 26], .s, 54525951⟩, ⟨[26, 21], some 32, [31, 26], .s, 121634815⟩, ⟨[23, 27, 21], some 33, [28, 32, 26], .s, 268435455⟩, ⟨[21, 28], some 34, [26, 33], .s, 536870911⟩, ⟨[29, 21], some 35, [34], .s, 1073741823⟩, ⟨[30], some 36, [3, 35], .s, 2147483647⟩, ⟨[31, 30], some 37, [36, 35], .s, 4294967295⟩, ⟨[32, 30], some 38, [37, 35], .s, 8589934591⟩, ⟨[30, 33], some 39, [35, 38], .s, 17179869183⟩, ⟨[34, 30], some 40, [39], .s, 34359738367⟩, ⟨[35], some 41, [3, 40], .s, 68719476735⟩, ⟨[36, 35], some 42, [41, 40], .s, 137438953471⟩, ⟨[37, 35], some 43, [42, 40], .s, 274877906943⟩, ⟨[35, 38], some 44, [40, 43], .s, 549755813887⟩] [.s, .s, .s, .s, .s, .s, .s, .s, .s, .s, .s, .s, .s, .s, .s, .s, .s, .s, .s, .s, .s, .s, .s, .s, .s, .s, .s, .s, .s, .s, .s, .s, .s, .s, .s, .s, .s, .s, .s, .s] [0, 1, 2, 3, 4, 5, 6, 7, 8, 9, 10, 11, 12, 13, 14, 15, 16, 17, 18, 19, 20, 21, 22, 23, 24, 25, 26, 27, 28, 29, 30, 31, 32, 33, 34, 35, 36, 37, 38, 39] mixed (by kernel_rfl) (by kernel_rfl) (by kernel_rfl) rfl rfl ?_
  refine EP_s rfl rfl rfl rfl rfl (by exact (os_field rfl fl41_1)) ?_
  refine EP_s rfl rfl rfl rfl rfl (by exact (os_load_one rfl one3 (cells_own own_head rfl))) ?_
  refine EP_s rfl rfl rfl rfl rfl (by exact (os_lss rfl rfl)) ?_
  refine EP_s rfl rfl rfl rfl rfl (by exact (os_move rfl)) ?_
  refine EP_joint 8 16 (.bool ((decide (m.From < 0)) || (decide (xr.n ≤ m.From)))) [4, 5, 6, 7, 8, 9, 10, 11] rfl rfl rfl ?_ ?_
  · skip
    refine ES_case (decide (m.From < 0)) (fun hg8 => ?_) (fun hg8 => ?_)
    · have hg8_ := hg8
      try simp only [Bool.or_eq_true, Bool.and_eq_true, Bool.or_eq_false_iff, Bool.and_eq_false_iff, decide_eq_true_eq, decide_eq_false_iff_not, Bool.not_eq_true', Bool.not_eq_false', Int.natCast_inj, Int.ofNat_lt, Int.ofNat_le] at hg8_
      refine ES_no rfl hg8 rfl rfl rfl rfl ?_
      refine ES_no rfl hg8 rfl rfl rfl rfl ?_
      refine ES_no rfl hg8 rfl rfl rfl rfl ?_
      refine ES_no rfl hg8 rfl rfl rfl rfl ?_
      refine ES_no rfl hg8 rfl rfl rfl rfl ?_
      refine ES_no rfl hg8 rfl rfl rfl rfl ?_
      refine ES_no rfl hg8 rfl rfl rfl rfl ?_
      refine ES_s rfl rfl rfl (os_pick_t' rfl hg8 rfl) ?_
      exact ES_fin 8 rfl rfl (by rw [hg8]; rfl)
    · have hg8_ := hg8
      try simp only [Bool.or_eq_true, Bool.and_eq_true, Bool.or_eq_false_iff, Bool.and_eq_false_iff, decide_eq_true_eq, decide_eq_false_iff_not, Bool.not_eq_true', Bool.not_eq_false', Int.natCast_inj, Int.ofNat_lt, Int.ofNat_le] at hg8_
      refine ES_yes (j := 3) (b := false) rfl rfl rfl hg8 rfl rfl (os_field rfl fl41_1) ?_
      refine ES_yes (j := 3) (b := false) rfl rfl rfl hg8 rfl rfl (os_load_one rfl one3 (cells_own own_head rfl)) ?_
      refine ES_yes (j := 3) (b := false) rfl rfl rfl hg8 rfl rfl (os_move rfl) ?_
      refine ES_yes (j := 3) (b := false) rfl rfl rfl hg8 rfl rfl (os_nilCheck rfl) ?_
      refine ES_yes (j := 3) (b := false) rfl rfl rfl hg8 rfl rfl (os_field rfl fl47_2) ?_
      refine ES_yes (j := 3) (b := false) rfl rfl rfl hg8 rfl rfl (os_load_one rfl one3 (cells_own (own_tail (hLbr.mem own_head)) rfl)) ?_
      refine ES_yes (j := 3) (b := false) rfl rfl rfl hg8 rfl rfl (os_geq rfl rfl) ?_
      refine ES_s rfl rfl rfl (os_pick_f' rfl hg8 rfl) ?_
      exact ES_fin 8 rfl rfl (by rw [hg8]; rfl)
  refine EP_s rfl rfl rfl rfl rfl (by exact (os_move rfl)) ?_
  refine EP_joint 8 25 (.bool (((decide (m.From < 0)) || (decide (xr.n ≤ m.From))) || (!decide (m.To = xr.id)))) [13, 14, 15, 16, 17, 18, 19, 20] rfl rfl rfl ?_ ?_
  · skip
    refine ES_case ((decide (m.From < 0)) || (decide (xr.n ≤ m.From))) (fun hg17 => ?_) (fun hg17 => ?_)
    · have hg17_ := hg17
      try simp only [Bool.or_eq_true, Bool.and_eq_true, Bool.or_eq_false_iff, Bool.and_eq_false_iff, decide_eq_true_eq, decide_eq_false_iff_not, Bool.not_eq_true', Bool.not_eq_false', Int.natCast_inj, Int.ofNat_lt, Int.ofNat_le] at hg17_
      refine ES_no rfl hg17 rfl rfl rfl rfl ?_
      refine ES_no rfl hg17 rfl rfl rfl rfl ?_
      refine ES_no rfl hg17 rfl rfl rfl rfl ?_
      refine ES_no rfl hg17 rfl rfl rfl rfl ?_
      refine ES_no rfl hg17 rfl rfl rfl rfl ?_
      refine ES_no rfl hg17 rfl rfl rfl rfl ?_
      refine ES_no rfl hg17 rfl rfl rfl rfl ?_
      refine ES_s rfl rfl rfl (os_pick_t' rfl hg17 rfl) ?_
      exact ES_fin 8 rfl rfl (by rw [hg17]; rfl)
    · have hg17_ := hg17
      try simp only [Bool.or_eq_true, Bool.and_eq_true, Bool.or_eq_false_iff, Bool.and_eq_false_iff, decide_eq_true_eq, decide_eq_false_iff_not, Bool.not_eq_true', Bool.not_eq_false', Int.natCast_inj, Int.ofNat_lt, Int.ofNat_le] at hg17_
      refine ES_yes (j := 12) (b := false) rfl rfl rfl hg17 rfl rfl (os_field rfl fl41_2) ?_
      refine ES_yes (j := 12) (b := false) rfl rfl rfl hg17 rfl rfl (os_load_one rfl one3 (cells_own own_head rfl)) ?_
      refine ES_yes (j := 12) (b := false) rfl rfl rfl hg17 rfl rfl (os_move rfl) ?_
      refine ES_yes (j := 12) (b := false) rfl rfl rfl hg17 rfl rfl (os_nilCheck rfl) ?_
      refine ES_yes (j := 12) (b := false) rfl rfl rfl hg17 rfl rfl (os_field rfl fl47_1) ?_
      refine ES_yes (j := 12) (b := false) rfl rfl rfl hg17 rfl rfl (os_load_one rfl one3 (cells_own (own_tail (hLbr.mem own_head)) rfl)) ?_
      refine ES_yes (j := 12) (b := false) rfl rfl rfl hg17 rfl rfl (os_neq rfl rfl) ?_
      refine ES_s rfl rfl rfl (os_pick_f' rfl hg17 rfl) ?_
      exact ES_fin 8 rfl rfl (by rw [hg17]; rfl)
  refine EP_s rfl rfl rfl rfl rfl (by exact (os_move rfl)) ?_
  refine EP_joint 8 34 (.bool ((((decide (m.From < 0)) || (decide (xr.n ≤ m.From))) || (!decide (m.To = xr.id))) || (decide (m.From = xr.id)))) [22, 23, 24, 25, 26, 27, 28, 29] rfl rfl rfl ?_ ?_
  · skip
    refine ES_case (((decide (m.From < 0)) || (decide (xr.n ≤ m.From))) || (!decide (m.To = xr.id))) (fun hg26 => ?_) (fun hg26 => ?_)
    · have hg26_ := hg26
      try simp only [Bool.or_eq_true, Bool.and_eq_true, Bool.or_eq_false_iff, Bool.and_eq_false_iff, decide_eq_true_eq, decide_eq_false_iff_not, Bool.not_eq_true', Bool.not_eq_false', Int.natCast_inj, Int.ofNat_lt, Int.ofNat_le] at hg26_
      refine ES_no rfl hg26 rfl rfl rfl rfl ?_
      refine ES_no rfl hg26 rfl rfl rfl rfl ?_
      refine ES_no rfl hg26 rfl rfl rfl rfl ?_
      refine ES_no rfl hg26 rfl rfl rfl rfl ?_
      refine ES_no rfl hg26 rfl rfl rfl rfl ?_
      refine ES_no rfl hg26 rfl rfl rfl rfl ?_
      refine ES_no rfl hg26 rfl rfl rfl rfl ?_
      refine ES_s rfl rfl rfl (os_pick_t' rfl hg26 rfl) ?_
      exact ES_fin 8 rfl rfl (by rw [hg26]; rfl)
    · have hg26_ := hg26
      try simp only [Bool.or_eq_true, Bool.and_eq_true, Bool.or_eq_false_iff, Bool.and_eq_false_iff, decide_eq_true_eq, decide_eq_false_iff_not, Bool.not_eq_true', Bool.not_eq_false', Int.natCast_inj, Int.ofNat_lt, Int.ofNat_le] at hg26_
      refine ES_yes (j := 21) (b := false) rfl rfl rfl hg26 rfl rfl (os_field rfl fl41_1) ?_
      refine ES_yes (j := 21) (b := false) rfl rfl rfl hg26 rfl rfl (os_load_one rfl one3 (cells_own own_head rfl)) ?_
      refine ES_yes (j := 21) (b := false) rfl rfl rfl hg26 rfl rfl (os_move rfl) ?_
      refine ES_yes (j := 21) (b := false) rfl rfl rfl hg26 rfl rfl (os_nilCheck rfl) ?_
      refine ES_yes (j := 21) (b := false) rfl rfl rfl hg26 rfl rfl (os_field rfl fl47_1) ?_
      refine ES_yes (j := 21) (b := false) rfl rfl rfl hg26 rfl rfl (os_load_one rfl one3 (cells_own (own_tail (hLbr.mem own_head)) rfl)) ?_
      refine ES_yes (j := 21) (b := false) rfl rfl rfl hg26 rfl rfl (os_eql rfl rfl) ?_
      refine ES_s rfl rfl rfl (os_pick_f' rfl hg26 rfl) ?_
      exact ES_fin 8 rfl rfl (by rw [hg26]; rfl)
  refine EP_s rfl rfl rfl rfl rfl (by exact (os_move rfl)) ?_
  refine EP_joint 4 39 (.bool (((((decide (m.From < 0)) || (decide (xr.n ≤ m.From))) || (!decide (m.To = xr.id))) || (decide (m.From = xr.id))) || (decide (m.Kind < 1)))) [31, 32, 33, 34] rfl rfl rfl ?_ ?_
  · skip
    refine ES_case ((((decide (m.From < 0)) || (decide (xr.n ≤ m.From))) || (!decide (m.To = xr.id))) || (decide (m.From = xr.id))) (fun hg35 => ?_) (fun hg35 => ?_)
    · have hg35_ := hg35
      try simp only [Bool.or_eq_true, Bool.and_eq_true, Bool.or_eq_false_iff, Bool.and_eq_false_iff, decide_eq_true_eq, decide_eq_false_iff_not, Bool.not_eq_true', Bool.not_eq_false', Int.natCast_inj, Int.ofNat_lt, Int.ofNat_le] at hg35_
      refine ES_no rfl hg35 rfl rfl rfl rfl ?_
      refine ES_no rfl hg35 rfl rfl rfl rfl ?_
      refine ES_no rfl hg35 rfl rfl rfl rfl ?_
      refine ES_s rfl rfl rfl (os_pick_t' rfl hg35 rfl) ?_
      exact ES_fin 4 rfl rfl (by rw [hg35]; rfl)
    · have hg35_ := hg35
      try simp only [Bool.or_eq_true, Bool.and_eq_true, Bool.or_eq_false_iff, Bool.and_eq_false_iff, decide_eq_true_eq, decide_eq_false_iff_not, Bool.not_eq_true', Bool.not_eq_false', Int.natCast_inj, Int.ofNat_lt, Int.ofNat_le] at hg35_
      refine ES_yes (j := 30) (b := false) rfl rfl rfl hg35 rfl rfl (os_field rfl fl41_0) ?_
      refine ES_yes (j := 30) (b := false) rfl rfl rfl hg35 rfl rfl (os_load_one rfl one3 (cells_own own_head rfl)) ?_
      refine ES_yes (j := 30) (b := false) rfl rfl rfl hg35 rfl rfl (os_lss rfl rfl) ?_
      refine ES_s rfl rfl rfl (os_pick_f' rfl hg35 rfl) ?_
      exact ES_fin 4 rfl rfl (by rw [hg35]; rfl)
  refine EP_s rfl rfl rfl rfl rfl (by exact (os_move rfl)) ?_
  refine EP_joint 4 44 (.bool ((((((decide (m.From < 0)) || (decide (xr.n ≤ m.From))) || (!decide (m.To = xr.id))) || (decide (m.From = xr.id))) || (decide (m.Kind < 1))) || (decide (7 < m.Kind)))) [36, 37, 38, 39] rfl rfl rfl ?_ ?_
  · skip
    refine ES_case (((((decide (m.From < 0)) || (decide (xr.n ≤ m.From))) || (!decide (m.To = xr.id))) || (decide (m.From = xr.id))) || (decide (m.Kind < 1))) (fun hg40 => ?_) (fun hg40 => ?_)
    · have hg40_ := hg40
      try simp only [Bool.or_eq_true, Bool.and_eq_true, Bool.or_eq_false_iff, Bool.and_eq_false_iff, decide_eq_true_eq, decide_eq_false_iff_not, Bool.not_eq_true', Bool.not_eq_false', Int.natCast_inj, Int.ofNat_lt, Int.ofNat_le] at hg40_
      refine ES_no rfl hg40 rfl rfl rfl rfl ?_
      refine ES_no rfl hg40 rfl rfl rfl rfl ?_
      refine ES_no rfl hg40 rfl rfl rfl rfl ?_
      refine ES_s rfl rfl rfl (os_pick_t' rfl hg40 rfl) ?_
      exact ES_fin 4 rfl rfl (by rw [hg40]; rfl)
    · have hg40_ := hg40
      try simp only [Bool.or_eq_true, Bool.and_eq_true, Bool.or_eq_false_iff, Bool.and_eq_false_iff, decide_eq_true_eq, decide_eq_false_iff_not, Bool.not_eq_true', Bool.not_eq_false', Int.natCast_inj, Int.ofNat_lt, Int.ofNat_le] at hg40_
      refine ES_yes (j := 35) (b := false) rfl rfl rfl hg40 rfl rfl (os_field rfl fl41_0) ?_
      refine ES_yes (j := 35) (b := false) rfl rfl rfl hg40 rfl rfl (os_load_one rfl one3 (cells_own own_head rfl)) ?_
      refine ES_yes (j := 35) (b := false) rfl rfl rfl hg40 rfl rfl (os_gtr rfl rfl) ?_
      refine ES_s rfl rfl rfl (os_pick_f' rfl hg40 rfl) ?_
      exact ES_fin 4 rfl rfl (by rw [hg40]; rfl)
  refine EP_nil ?_
  refine EQ_then (EQ_wp ?_)
  refine EW_cond rfl (fun hc44 => ?_) (fun hc44 => ?_)
  · have hb44 := hc44
    try simp only [Bool.or_eq_true, Bool.and_eq_true, Bool.or_eq_false_iff, Bool.and_eq_false_iff, decide_eq_true_eq, decide_eq_false_iff_not, Bool.not_eq_true', Bool.not_eq_false', Int.natCast_inj, Int.ofNat_lt, Int.ofNat_le] at hc44
    refine EW_seq ?_
    -- region 2  raft.go:268
    refine EW_region ?_
    refine EL_s rfl rfl rfl (os_assign rfl) ?_
    refine EL_nil ?_
    refine EQ_then (EQ_wp ?_)
    refine EW_ret ?_
    refine EQ_then_ret (?_)
    exact pc_ret1 Try.results65 (rv_tmp rfl) (.refl _) ((Incl.refl _).skip _) (by refine congrArg Value.bool ?_; symm; rw [Bool.eq_false_iff]; intro h; simp only [NodeP.proper, Bool.and_eq_true, Bool.or_eq_true, Bool.not_eq_true', Bool.and_eq_false_iff, Bool.or_eq_false_iff, Bool.not_eq_false', decide_eq_true_eq, decide_eq_false_iff_not, Int.natCast_inj, Int.ofNat_lt, Int.ofNat_le] at h; obtain ⟨h, _⟩ := h; simp only [Node.abs, Msg.abs] at h; omega) (.inl rfl)
  · have hb44 := hc44
    try simp only [Bool.or_eq_true, Bool.and_eq_true, Bool.or_eq_false_iff, Bool.and_eq_false_iff, decide_eq_true_eq, decide_eq_false_iff_not, Bool.not_eq_true', Bool.not_eq_false', Int.natCast_inj, Int.ofNat_lt, Int.ofNat_le] at hc44
    refine EW_skip ?_
    refine EQ_then (EQ_wp ?_)
    refine EW_seq ?_
    -- region 3  raft.go:270
    refine EW_region ?_
    refine EL_s rfl rfl rfl (os_field rfl fl41_7) ?_
    refine EL_s rfl rfl rfl (os_load_one rfl one34 (cells_own own_head rfl)) ?_
    refine EL_s rfl rfl rfl (os_field rfl fl41_3) ?_
    refine EL_s rfl rfl rfl (os_load_one rfl one22 (cells_own own_head rfl)) ?_
    refine EL_s rfl rfl rfl (os_call (vs := [(m.Entries.v), (.int .u64 0), (.int .u64 ((m.Term : Nat) : Int))]) body63 rfl (rising (FRow.mono hm.Entries (.refl _) (Incl.nil _)) 0 m.Term)) ?_
    refine EL_s rfl rfl rfl (os_move rfl) ?_
    refine EL_joint 4 54 (.bool ((risingP (m.Entries.xs.map Entry.abs) 0 m.Term) && (decide (((m.Index : Nat) : Int) ≤ 4611686018427387904)))) ?_ ?_
    · skip
      refine ES_case (risingP (m.Entries.xs.map Entry.abs) 0 m.Term) (fun hg50 => ?_) (fun hg50 => ?_)
      · have hg50_ := hg50
        try simp only [Bool.or_eq_true, Bool.and_eq_true, Bool.or_eq_false_iff, Bool.and_eq_false_iff, decide_eq_true_eq, decide_eq_false_iff_not, Bool.not_eq_true', Bool.not_eq_false', Int.natCast_inj, Int.ofNat_lt, Int.ofNat_le] at hg50_
        refine ES_yes (j := 5) (b := true) rfl rfl rfl hg50 rfl rfl (os_field rfl fl41_4) ?_
        refine ES_yes (j := 5) (b := true) rfl rfl rfl hg50 rfl rfl (os_load_one rfl one22 (cells_own own_head rfl)) ?_
        refine ES_yes (j := 5) (b := true) rfl rfl rfl hg50 rfl rfl (os_leq rfl rfl) ?_
        refine ES_s rfl rfl rfl (os_pick_t' rfl hg50 rfl) ?_
        exact ES_fin 4 rfl rfl (by rw [hg50]; rfl)
      · have hg50_ := hg50
        try simp only [Bool.or_eq_true, Bool.and_eq_true, Bool.or_eq_false_iff, Bool.and_eq_false_iff, decide_eq_true_eq, decide_eq_false_iff_not, Bool.not_eq_true', Bool.not_eq_false', Int.natCast_inj, Int.ofNat_lt, Int.ofNat_le] at hg50_
        refine ES_no rfl hg50 rfl rfl rfl rfl ?_
        refine ES_no rfl hg50 rfl rfl rfl rfl ?_
        refine ES_no rfl hg50 rfl rfl rfl rfl ?_
        refine ES_s rfl rfl rfl (os_pick_f' rfl hg50 rfl) ?_
        exact ES_fin 4 rfl rfl (by rw [hg50]; rfl)
    refine EL_s rfl rfl rfl (os_move rfl) ?_
    refine EL_joint 4 59 (.bool (((risingP (m.Entries.xs.map Entry.abs) 0 m.Term) && (decide (((m.Index : Nat) : Int) ≤ 4611686018427387904))) && (decide (((m.Term : Nat) : Int) ≤ 4611686018427387904)))) ?_ ?_
    · skip
      refine ES_case ((risingP (m.Entries.xs.map Entry.abs) 0 m.Term) && (decide (((m.Index : Nat) : Int) ≤ 4611686018427387904))) (fun hg55 => ?_) (fun hg55 => ?_)
      · have hg55_ := hg55
        try simp only [Bool.or_eq_true, Bool.and_eq_true, Bool.or_eq_false_iff, Bool.and_eq_false_iff, decide_eq_true_eq, decide_eq_false_iff_not, Bool.not_eq_true', Bool.not_eq_false', Int.natCast_inj, Int.ofNat_lt, Int.ofNat_le] at hg55_
        refine ES_yes (j := 10) (b := true) rfl rfl rfl hg55 rfl rfl (os_field rfl fl41_3) ?_
        refine ES_yes (j := 10) (b := true) rfl rfl rfl hg55 rfl rfl (os_load_one rfl one22 (cells_own own_head rfl)) ?_
        refine ES_yes (j := 10) (b := true) rfl rfl rfl hg55 rfl rfl (os_leq rfl rfl) ?_
        refine ES_s rfl rfl rfl (os_pick_t' rfl hg55 rfl) ?_
        exact ES_fin 4 rfl rfl (by rw [hg55]; rfl)
      · have hg55_ := hg55
        try simp only [Bool.or_eq_true, Bool.and_eq_true, Bool.or_eq_false_iff, Bool.and_eq_false_iff, decide_eq_true_eq, decide_eq_false_iff_not, Bool.not_eq_true', Bool.not_eq_false', Int.natCast_inj, Int.ofNat_lt, Int.ofNat_le] at hg55_
        refine ES_no rfl hg55 rfl rfl rfl rfl ?_
        refine ES_no rfl hg55 rfl rfl rfl rfl ?_
        refine ES_no rfl hg55 rfl rfl rfl rfl ?_
        refine ES_s rfl rfl rfl (os_pick_f' rfl hg55 rfl) ?_
        exact ES_fin 4 rfl rfl (by rw [hg55]; rfl)
    refine EL_s rfl rfl rfl (os_assign rfl) ?_
    refine EL_nil ?_
    refine EQ_then (EQ_wp ?_)
    refine EW_ret ?_
    exact pc_ret1 Try.results65 (rv_tmp rfl) (.refl _) ((Incl.refl _).skip _) (by refine congrArg Value.bool ?_; rw [Bool.eq_iff_iff]; simp only [NodeP.proper, Bool.and_eq_true, Bool.or_eq_true, Bool.not_eq_true', Bool.and_eq_false_iff, Bool.or_eq_false_iff, Bool.not_eq_false', decide_eq_true_eq, decide_eq_false_iff_not, Int.natCast_inj, Int.ofNat_lt, Int.ofNat_le]; simp only [Node.abs, Msg.abs]; exact ⟨fun h => ⟨by omega, ⟨h.1.1, by omega⟩, by omega⟩, fun h => ⟨⟨h.2.1.1, by omega⟩, by omega⟩⟩) (.inl rfl)

theorem n_upToDate {I : Gh} {L : List Seg} {br : Nat} {r : NodeP} {Ssr : List Seg} (hr : NodeAt I br r Ssr) (hSsr : Incl Ssr L) {m : Msg} (hm : Msg.Ok I m) (hp0 : NodeP.Few r) : PC Try.prog 66 #[.pointer (some ⟨br, 0, none⟩), .agg (m.cells).toArray] I L fun K v => v = .bool (r.upToDate m.abs) := by
  obtain ⟨xr, Sra, Srb, Src, Srd, rfl, rfl, hora, horb, horc, hord⟩ := hr
  refine PC.of (n := 24) Try.func66 rfl Try.ntmps66 rfl fun I0 L0 hI0 hL0 => ?_
  have hora := hora.mono hI0
  have horb := horb.mono hI0
  have horc := horc.mono hI0
  have hord := hord.mono hI0
  have hLbr := hSsr.trans hL0
  have hm := hm.mono hI0
  have hf0 := hp0
  obtain ⟨hfb, hfl, hft, hid0, hidn, hn5, hlim0, hlim1, hclk0, hclk1, hbt, htrm, hcmt⟩ := hf0
  simp only [Node.abs, List.length_map] at hfb hfl hft hid0 hidn hn5 hlim0 hlim1 hclk0 hclk1 hbt htrm hcmt
  have hltm := NodeP.lastTerm_le hp0
  have hlast : NodeP.last xr.abs = xr.Base + xr.Entries.xs.length := by simp [NodeP.last, Node.abs]
  refine EW_seq ?_
  -- region 0  raft.go:261
  refine EW_region ?_
  refine EL_a rfl rfl rfl (oa_box rfl) ?_
  intro b3
  refine EL_s rfl rfl rfl (os_assign rfl) ?_
  refine EL_nil ?_
  refine EQ_then (EQ_wp ?_)
  refine EW_seq ?_
  -- region 1 DRAWN  raft.go:262
  refine EW_drawC [] [⟨[], some 5, [3], .s, 0⟩, ⟨[0], some 6, [5], .s, 1⟩, ⟨[], some 7, [0], .s, 0⟩, ⟨[2], some 8, [7], .s, 4⟩, ⟨[1, 3], some 9, [6, 8], .s, 15⟩, ⟨[4, 3], some 10, [9], .s, 31⟩, ⟨[5], some 11, [3, 10], .s, 63⟩, ⟨[6, 5], some 12, [11, 10], .s, 127⟩, ⟨[5], some 13, [0, 10], .s, 63⟩, ⟨[8, 5, 5], some 14, [13, 10], .s, 319⟩, ⟨[7, 9, 5], some 15, [12, 14, 10], .s, 1023⟩, ⟨[10, 9, 5], some 16, [15, 10], .s, 2047⟩, ⟨[11], some 17, [3, 16], .s, 4095⟩, ⟨[12, 11], some 18, [17, 16], .s, 8191⟩, ⟨[11], some 19, [0, 16], .s, 4095⟩, ⟨[14, 11, 11], some 20, [19, 16], .s, 20479⟩, ⟨[13, 15, 11], some 21, [18, 20, 16], .s, 65535⟩, ⟨[11, 16, 5], some 22, [16, 21, 10], .s, 131071⟩, ⟨[5, 17], some 23, [10, 22], .s, 262143⟩, ⟨[18, 15, 0, 1, 2, 3, 4, 5, 6, 7, 8, 9, 10, 11, 12, 13, 14, 15, 16, 17, 18], some 4, [23], .s, 524287⟩] [.s, .s, .s, .s, .s, .s, .s, .s, .s, .s, .s, .s, .s, .s, .s, .s, .s, .s, .s, .s] [0, 1, 2, 3, 4, 5, 6, 7, 8, 9, 10, 11, 12, 13, 14, 15, 16, 17, 18, 19] mixed (by kernel_rfl) (by kernel_rfl) (by kernel_rfl) rfl rfl ?_
  refine EP_s rfl rfl rfl rfl rfl (by exact (os_field rfl fl41_5)) ?_
  refine EP_s rfl rfl rfl rfl rfl (by exact (os_load_one rfl one22 (cells_own own_head rfl))) ?_
  refine EP_s rfl rfl rfl rfl rfl (by exact (os_move rfl)) ?_
  refine EP_s rfl rfl rfl rfl rfl (by exact (os_call (vs := [(.pointer (some ⟨br, 0, none⟩))]) body108 rfl (n_lastTerm (NodeAt.intro xr hora horb horc hord) (hLbr.skip _) (by assumption)))) ?_
  refine EP_s rfl rfl rfl rfl rfl (by exact (os_gtr rfl rfl)) ?_
  refine EP_s rfl rfl rfl rfl rfl (by exact (os_move rfl)) ?_
  refine EP_joint 13 23 (.bool ((decide (((((xr.abs).lastTerm) : Nat) : Int) < ((m.LogTerm : Nat) : Int))) || ((decide (((m.LogTerm : Nat) : Int) = ((((xr.abs).lastTerm) : Nat) : Int))) && (decide (((((xr.abs).last) : Nat) : Int) ≤ ((m.Index : Nat) : Int)))))) [6, 7, 8, 9, 10, 11, 12, 13, 14, 15, 16, 17, 18] rfl rfl rfl ?_ ?_
  · skip
    refine ES_case (decide (((((xr.abs).lastTerm) : Nat) : Int) < ((m.LogTerm : Nat) : Int))) (fun hg10 => ?_) (fun hg10 => ?_)
    · have hg10_ := hg10
      try simp only [Bool.or_eq_true, Bool.and_eq_true, Bool.or_eq_false_iff, Bool.and_eq_false_iff, decide_eq_true_eq, decide_eq_false_iff_not, Bool.not_eq_true', Bool.not_eq_false', Int.natCast_inj, Int.ofNat_lt, Int.ofNat_le] at hg10_
      refine ES_no rfl hg10 rfl rfl rfl rfl ?_
      refine ES_no rfl hg10 rfl rfl rfl rfl ?_
      refine ES_no rfl hg10 rfl rfl rfl rfl ?_
      refine ES_no rfl hg10 rfl rfl rfl rfl ?_
      refine ES_no rfl hg10 rfl rfl rfl rfl ?_
      refine ES_no rfl hg10 rfl rfl rfl rfl ?_
      refine ES_nou rfl rfl rfl rfl rfl ?_
      refine ES_nou rfl rfl rfl rfl rfl ?_
      refine ES_nou rfl rfl rfl rfl rfl ?_
      refine ES_nou rfl rfl rfl rfl rfl ?_
      refine ES_nou rfl rfl rfl rfl rfl ?_
      refine ES_no rfl hg10 rfl rfl rfl rfl ?_
      refine ES_s rfl rfl rfl (os_pick_t' rfl hg10 rfl) ?_
      exact ES_fin 13 rfl rfl (by rw [hg10]; rfl)
    · have hg10_ := hg10
      try simp only [Bool.or_eq_true, Bool.and_eq_true, Bool.or_eq_false_iff, Bool.and_eq_false_iff, decide_eq_true_eq, decide_eq_false_iff_not, Bool.not_eq_true', Bool.not_eq_false', Int.natCast_inj, Int.ofNat_lt, Int.ofNat_le] at hg10_
      refine ES_yes (j := 5) (b := false) rfl rfl rfl hg10 rfl rfl (os_field rfl fl41_5) ?_
      refine ES_yes (j := 5) (b := false) rfl rfl rfl hg10 rfl rfl (os_load_one rfl one22 (cells_own own_head rfl)) ?_
      refine ES_yes (j := 5) (b := false) rfl rfl rfl hg10 rfl rfl (os_move rfl) ?_
      refine ES_yes (j := 5) (b := false) rfl rfl rfl hg10 rfl rfl (os_call (vs := [(.pointer (some ⟨br, 0, none⟩))]) body108 rfl (n_lastTerm (NodeAt.intro xr hora horb horc hord) (hLbr.skip _) (by assumption))) ?_
      refine ES_yes (j := 5) (b := false) rfl rfl rfl hg10 rfl rfl (os_eql rfl rfl) ?_
      refine ES_yes (j := 5) (b := false) rfl rfl rfl hg10 rfl rfl (os_move rfl) ?_
      refine ES_case (decide (((m.LogTerm : Nat) : Int) = ((((xr.abs).lastTerm) : Nat) : Int))) (fun hg16 => ?_) (fun hg16 => ?_)
      · have hg16_ := hg16
        try simp only [Bool.or_eq_true, Bool.and_eq_true, Bool.or_eq_false_iff, Bool.and_eq_false_iff, decide_eq_true_eq, decide_eq_false_iff_not, Bool.not_eq_true', Bool.not_eq_false', Int.natCast_inj, Int.ofNat_lt, Int.ofNat_le] at hg16_
        refine ES_yes (j := 11) (b := true) rfl rfl rfl hg16 rfl rfl (os_field rfl fl41_4) ?_
        refine ES_yes (j := 11) (b := true) rfl rfl rfl hg16 rfl rfl (os_load_one rfl one22 (cells_own own_head rfl)) ?_
        refine ES_yes (j := 11) (b := true) rfl rfl rfl hg16 rfl rfl (os_move rfl) ?_
        refine ES_yes (j := 11) (b := true) rfl rfl rfl hg16 rfl rfl (os_call (vs := [(.pointer (some ⟨br, 0, none⟩))]) body14 rfl (n_Last (NodeAt.intro xr hora horb horc hord) (hLbr.skip _) (by assumption))) ?_
        have hq20 : NodeP.last (xr.abs) = xr.Base + xr.Entries.xs.length := by simp [NodeP.last, Node.abs]
        refine ES_yes (j := 11) (b := true) rfl rfl rfl hg16 rfl rfl (os_geq rfl rfl) ?_
        refine ES_yes (j := 5) (b := false) rfl rfl rfl hg10 rfl rfl (os_pick_t' rfl hg16 rfl) ?_
        refine ES_s rfl rfl rfl (os_pick_f' rfl hg10 rfl) ?_
        exact ES_fin 13 rfl rfl (by rw [hg10, hg16]; rfl)
      · have hg16_ := hg16
        try simp only [Bool.or_eq_true, Bool.and_eq_true, Bool.or_eq_false_iff, Bool.and_eq_false_iff, decide_eq_true_eq, decide_eq_false_iff_not, Bool.not_eq_true', Bool.not_eq_false', Int.natCast_inj, Int.ofNat_lt, Int.ofNat_le] at hg16_
        refine ES_no rfl hg16 rfl rfl rfl rfl ?_
        refine ES_no rfl hg16 rfl rfl rfl rfl ?_
        refine ES_no rfl hg16 rfl rfl rfl rfl ?_
        refine ES_no rfl hg16 rfl rfl rfl rfl ?_
        refine ES_no rfl hg16 rfl rfl rfl rfl ?_
        refine ES_yes (j := 5) (b := false) rfl rfl rfl hg10 rfl rfl (os_pick_f' rfl hg16 rfl) ?_
        refine ES_s rfl rfl rfl (os_pick_f' rfl hg10 rfl) ?_
        exact ES_fin 13 rfl rfl (by rw [hg10, hg16]; rfl)
  refine EP_s rfl rfl rfl rfl rfl (by exact (os_assign rfl)) ?_
  refine EP_nil ?_
  refine EQ_then (EQ_wp ?_)
  refine EW_ret ?_
  exact pc_ret1 Try.results66 (rv_tmp rfl) (.refl _) ((Incl.refl _).skip _) (by refine congrArg Value.bool ?_; rw [Bool.eq_iff_iff]; simp only [NodeP.upToDate, Bool.and_eq_true, Bool.or_eq_true, Bool.not_eq_true', Bool.and_eq_false_iff, Bool.or_eq_false_iff, Bool.not_eq_false', decide_eq_true_eq, decide_eq_false_iff_not, Int.natCast_inj, Int.ofNat_lt, Int.ofNat_le]; simp only [Msg.abs]) (.inl rfl)

theorem n_answer {I : Gh} {L : List Seg} {br : Nat} {r : NodeP} {Ssr : List Seg} (hr : NodeAt I br r Ssr) (hSsr : Incl Ssr L) {m : Msg} (hm : Msg.Ok I m) {a : Msg} (ha : Msg.Ok I a) (hp0 : 0 ≤ r.id ∧ r.id ≤ 5) : PC Try.prog 67 #[.pointer (some ⟨br, 0, none⟩), .agg (m.cells).toArray, .agg (a.cells).toArray] I L fun K v => ∃ (y0 : Sl Msg), v = y0.v ∧ FRow rMsg K [] y0 ∧ y0.xs.map Msg.abs = [{ a.abs with From := r.id, To := m.From }] := by
  obtain ⟨xr, Sra, Srb, Src, Srd, rfl, rfl, hora, horb, horc, hord⟩ := hr
  refine PC.of (n := 17) Try.func67 rfl Try.ntmps67 rfl fun I0 L0 hI0 hL0 => ?_
  have hora := hora.mono hI0
  have horb := horb.mono hI0
  have horc := horc.mono hI0
  have hord := hord.mono hI0
  have hLbr := hSsr.trans hL0
  have hm := hm.mono hI0
  have ha := ha.mono hI0
  simp only [Node.abs] at hp0
  have hmf := hm.From
  refine EW_seq ?_
  -- region 0  raft.go:255
  refine EW_region ?_
  refine EL_a rfl rfl rfl (oa_box rfl) ?_
  intro b4
  refine EL_a rfl rfl rfl (oa_box rfl) ?_
  intro b5
  refine EL_s rfl rfl rfl (os_assign rfl) ?_
  refine EL_nil ?_
  refine EQ_then (EQ_wp ?_)
  refine EW_seq ?_
  -- region 1 DRAWN  raft.go:256
  refine EW_drawC [[(b4, .cells #[(.int .i64 m.Kind), (.int .i64 m.From), (.int .i64 m.To), (.int .u64 ((m.Term : Nat) : Int)), (.int .u64 ((m.Index : Nat) : Int)), (.int .u64 ((m.LogTerm : Nat) : Int)), (.int .u64 ((m.Commit : Nat) : Int)), (m.Entries.v), (.bool m.OK), (m.Data.v)] 41)]] [⟨[], some 7, [0], .s, 0⟩, ⟨[0], some 8, [7], .s, 1⟩, ⟨[1], some 9, [8], .s, 3⟩, ⟨[2], some 10, [9], .s, 7⟩, ⟨[], some 11, [4], .r, 0⟩, ⟨[4], some 12, [11], .r, 16⟩, ⟨[0, 1, 2, 3], some 13, [5], .s, 15⟩, ⟨[6, 3, 0, 1, 2, 3], none, [13, 10], .y, 79⟩, ⟨[0, 1, 2, 3, 4, 5, 6, 7], some 14, [5], .s, 255⟩, ⟨[8, 5, 7, 0, 1, 2, 3, 4, 5, 6, 7], none, [14, 12], .y, 511⟩] [.s, .s, .s, .s, .r, .r, .s, .y, .s, .y] [0, 1, 2, 3, 4, 5, 6, 7, 8, 9] mixed (by kernel_rfl) (by kernel_rfl) (by kernel_rfl) rfl rfl ?_
  refine EP_s rfl rfl rfl rfl rfl (by exact (os_move rfl)) ?_
  refine EP_s rfl rfl rfl rfl rfl (by exact (os_nilCheck rfl)) ?_
  refine EP_s rfl rfl rfl rfl rfl (by exact (os_field rfl fl47_1)) ?_
  refine EP_s rfl rfl rfl rfl rfl (by exact (os_load_one rfl one3 (cells_own (own_tail (own_tail (hLbr.mem own_head))) rfl))) ?_
  refine EP_r rfl rfl rfl rfl rfl (incl_mid [_] [_] _) (by exact (os_field rfl fl41_1)) ?_
  refine EP_r rfl rfl rfl rfl rfl (incl_mid [_] [_] _) (by exact (os_load_one rfl one3 (cells_own own_head rfl))) ?_
  refine EP_s rfl rfl rfl rfl rfl (by exact (os_field rfl fl41_1)) ?_
  refine EP_ku rfl rfl rfl rfl (by exact (ox_store rfl rfl sz3 rfl (by rfl) (.head .head))) (incl_mid [_] [_] _) ?_
  refine EP_s rfl rfl rfl rfl rfl (by exact (os_field rfl fl41_2)) ?_
  refine EP_ku rfl rfl rfl rfl (by exact (ox_store rfl rfl sz3 rfl (by rfl) (.head .head))) (incl_mid [_] [_] _) ?_
  refine EP_nil ?_
  refine EQ_then (EQ_wp ?_)
  refine EW_seq ?_
  -- region 2  raft.go:257
  refine EW_region ?_
  refine EL_s rfl rfl rfl (os_load_agg (cs := [_, _, _, _, _, _, _, _, _, _]) rfl agg41 (cells_own own_head rfl)) ?_
  have hr_y16_0 : Msg.Ok I0 (Msg.mk a.Kind xr.id m.From a.Term a.Index a.LogTerm a.Commit a.Entries a.OK a.Data) := ⟨ha.Kind, (by first | omega | (dsimp only; omega)), hm.From, ha.Term, ha.Index, ha.LogTerm, ha.Commit, (FRow.mono ha.Entries (.refl _) (.refl _)), (FRow.mono ha.Data (.refl _) (.refl _))⟩
  refine EL_a rfl rfl rfl (oa_slice [_] sl49 z41 rfl rfl rfl rfl) ?_
  intro b16
  have hob16 : OwnR rMsg I0 41 (Sl.mk (Hd.mk (some ⟨b16, 0, none⟩) 1 1) [(Msg.mk a.Kind xr.id m.From a.Term a.Index a.LogTerm a.Commit a.Entries a.OK a.Data)]) [(b16, .cells _ 41)] := OwnR.lit rfl rfl (by unfold maxLen; omega) (by decide) (fun x hx => by simp only [List.mem_cons, List.not_mem_nil, or_false] at hx; rcases hx with rfl <;> first | exact hr_y16_0)
  refine EL_s rfl rfl rfl (os_assign rfl) ?_
  refine EL_nil ?_
  refine EQ_then (EQ_wp ?_)
  refine EW_ret ?_
  refine EQ_freeze (.refl _) (fun Iz1_0 hIz1_0 hfz1_0 => ?_)
  have hzz1_0 : FRow rMsg Iz1_0 [] (Sl.mk (Hd.mk (some ⟨b16, 0, none⟩) 1 1) [(Msg.mk a.Kind xr.id m.From a.Term a.Index a.LogTerm a.Commit a.Entries a.OK a.Data)]) := OwnR.frow (hob16.mono hIz1_0) fun x hx => .inl (hfz1_0 x hx)
  exact pc_ret1 Try.results67 (rv_tmp rfl) hIz1_0 (((Incl.refl _).skip _).skip _) ⟨(Sl.mk (Hd.mk (some ⟨b16, 0, none⟩) 1 1) [(Msg.mk a.Kind xr.id m.From a.Term a.Index a.LogTerm a.Commit a.Entries a.OK a.Data)]), rfl, (FRow.mono hzz1_0 (.refl _) (.refl _)), (by simp [Msg.abs, Node.abs])⟩ (.inl rfl)


end Go.Proofs.Ytlhibbjnhdcffaa
