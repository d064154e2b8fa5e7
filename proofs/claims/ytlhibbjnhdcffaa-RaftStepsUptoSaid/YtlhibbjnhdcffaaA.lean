/- Proved here: the part A of the proof that the law of this seat returns true for every input; no condition. -/
import Derived.Test.YtlhibbjnhdcffaaTy
import Derived.Test.YtlhibbjnhdcffaaD
set_option maxRecDepth 20000
set_option linter.unusedVariables false
set_option linter.unusedSimpArgs false
namespace Go.Proofs.Ytlhibbjnhdcffaa
open Go Go.Gl

theorem bytes_Clone {I : Gh} {L : List Seg} {s : Sl UInt8} (hs : FRow rByte I L s) : PC Try.prog 97 #[s.v] I L fun K v => ∃ (y0 : Sl UInt8), v = y0.v ∧ FRow rByte K [] y0 ∧ y0.xs = s.xs := by
  refine PC.of (n := 8) Try.func97 rfl Try.ntmps97 rfl fun I0 L0 hI0 hL0 => ?_
  have hs := FRow.mono hs hI0 hL0
  have hl_s := FRow.len hs
  have hf_s := hs.few
  simp only [rByte] at hf_s
  refine EW_seq ?_
  -- region 0  bytes.go:1391
  refine EW_region ?_
  refine EL_s rfl rfl rfl (os_assign rfl) ?_
  refine EL_nil ?_
  refine EQ_then (EQ_wp ?_)
  refine EW_seq ?_
  refine EW_seq ?_
  -- region 1  bytes.go:1392
  refine EW_region ?_
  refine EL_s rfl rfl rfl (os_move rfl) ?_
  refine EL_s rfl rfl rfl (os_eql_nil rfl rfl sl39) ?_
  refine EL_nil ?_
  refine EQ_then (EQ_wp ?_)
  refine EW_cond rfl (fun hc4 => ?_) (fun hc4 => ?_)
  · have hb4 := hc4
    try simp only [Bool.or_eq_true, Bool.and_eq_true, Bool.or_eq_false_iff, Bool.and_eq_false_iff, decide_eq_true_eq, decide_eq_false_iff_not, Bool.not_eq_true', Bool.not_eq_false', Int.natCast_inj, Int.ofNat_lt, Int.ofNat_le] at hc4
    have hl := FRow.len hs
    have hz := FRow.nil hs (by simpa using hc4)
    have hle := FRow.nle hs
    have h0 : s.xs = [] := List.eq_nil_of_length_eq_zero (by omega)
    refine EW_seq ?_
    -- region 2  bytes.go:1393
    refine EW_region ?_
    refine EL_s rfl rfl rfl (os_assign rfl) ?_
    refine EL_nil ?_
    refine EQ_then (EQ_wp ?_)
    refine EW_ret ?_
    refine EQ_then_ret (?_)
    exact pc_ret1 Try.results97 (rv_tmp rfl) (.refl _) (Incl.refl _) ⟨(Sl.mk (Hd.mk none 0 0) []), rfl, (FRow.none _ _ _), (by simp [*])⟩ (.inl rfl)
  · have hb4 := hc4
    try simp only [Bool.or_eq_true, Bool.and_eq_true, Bool.or_eq_false_iff, Bool.and_eq_false_iff, decide_eq_true_eq, decide_eq_false_iff_not, Bool.not_eq_true', Bool.not_eq_false', Int.natCast_inj, Int.ofNat_lt, Int.ofNat_le] at hc4
    refine EW_skip ?_
    refine EQ_then (EQ_wp ?_)
    refine EW_seq ?_
    -- region 3  bytes.go:1395
    refine EW_region ?_
    refine EL_a rfl rfl rfl (oa_slice [] sl39 z5 rfl rfl rfl rfl) ?_
    intro b5
    have hob5 : OwnR rByte I0 5 (Sl.mk (Hd.mk (some ⟨b5, 0, none⟩) 0 0) []) [(b5, .cells _ 5)] := OwnR.lit rfl rfl (by unfold maxLen; omega) (by decide) (fun x hx => by cases hx)
    refine EL_s rfl rfl rfl (os_move rfl) ?_
    refine EL_y rfl rfl rfl (ox_app (R := rByte) (bytes := 1) (s := (Sl.mk (Hd.mk (some ⟨b5, 0, none⟩) 0 0) [])) (s' := s) 1 rfl rfl rfl rfl sl39 z5 rfl hob5 (List.Perm.refl _) (FRow.mono hs (.refl _) ((Incl.refl _).skip _)) (by first | omega | (simp only [List.length_cons, List.length_nil, Nat.zero_add]; omega)) (by unfold maxLen; first | omega | (simp only [List.length_cons, List.length_nil, Nat.zero_add]; omega))) ?_
    rintro L7 v7 ⟨s7, S7, rfl, rfl, hx7, ho7⟩
    refine EL_s rfl rfl rfl (os_assign rfl) ?_
    refine EL_nil ?_
    refine EQ_then (EQ_wp ?_)
    refine EW_ret ?_
    refine EQ_freeze (.refl _) (fun Iz2_0 hIz2_0 hfz2_0 => ?_)
    have hzz2_0 : FRow rByte Iz2_0 [] s7 := OwnR.frow (ho7.mono hIz2_0) fun x hx => .inl (hfz2_0 x hx)
    exact pc_ret1 Try.results97 (rv_tmp rfl) hIz2_0 (Incl.refl _) ⟨s7, rfl, (FRow.mono hzz2_0 (.refl _) (.refl _)), (by simp [*])⟩ (.inl rfl)

theorem twins {I : Gh} {L : List Seg} {s : Sl Entry} (hs : FRow rEntry I L s) : PC Try.prog 64 #[s.v] I L fun K v => ∃ (y0 : Sl Entry), v = y0.v ∧ FRow rEntry K [] y0 ∧ y0.xs.map Entry.abs = s.xs.map Entry.abs := by
  refine PC.of (n := 23) Try.func64 rfl Try.ntmps64 rfl fun I0 L0 hI0 hL0 => ?_
  have hs := FRow.mono hs hI0 hL0
  have hl_s := FRow.len hs
  have hf_s := hs.few
  simp only [rEntry] at hf_s
  refine EW_seq ?_
  -- region 0  raft.go:78
  refine EW_region ?_
  refine EL_s rfl rfl rfl (os_assign rfl) ?_
  refine EL_nil ?_
  refine EQ_then (EQ_wp ?_)
  refine EW_seq ?_
  -- region 1  raft.go:79
  refine EW_region ?_
  refine EL_s rfl rfl rfl (os_assign rfl) ?_
  refine EL_nil ?_
  refine EQ_then (EQ_wp ?_)
  refine EW_seq ?_
  refine EW_seq ?_
  -- region 2  raft.go:80
  refine EW_region ?_
  refine EL_s rfl rfl rfl (os_move rfl) ?_
  have hl7 := (show s.h.n = s.xs.length from FRow.len hs)
  refine EL_s rfl rfl rfl (os_len rfl sl34) ?_
  refine EL_s rfl rfl rfl (os_move rfl) ?_
  refine EL_nil ?_
  refine EQ_then (EQ_wp ?_)
  refine EW_block ?_
  refine EW_loop (σ := Gh × Nat × Seg × (Sl Entry)) (fun ⟨IJ0, k, S, o⟩ => [(3, (o.v)), (6, (s.v)), (7, (.int .i64 ((s.h.n : Nat) : Int))), (8, (.int .i64 ((k : Nat) : Int)))]) (fun ⟨IJ0, k, S, o⟩ => IJ0) (fun ⟨IJ0, k, S, o⟩ => S :: L0) (fun ⟨IJ0, k, S, o⟩ => I0.le IJ0 ∧ k ≤ s.xs.length ∧ OwnR rEntry IJ0 125 o S ∧ o.xs.map Entry.abs = (s.xs.map Entry.abs).take k) (fun ⟨IJ0, k, S, o⟩ => s.xs.length - k) (I0, 0, [], ⟨⟨none, 0, 0⟩, []⟩) ⟨Gh.le.refl _, ⟨Nat.zero_le _, OwnR.none _ _ _, rfl⟩⟩ ⟨rfl, rfl, rfl, rfl, trivial⟩ (fun w h => h.incl (Incl.of_nil (.refl _))) ?_
  rintro ⟨IJ0, k, S, o⟩ ⟨hIJ0, ⟨hk, ho, ha⟩⟩
  have hlo := congrArg List.length ha
  simp only [List.length_map, List.length_take] at hlo
  refine EW_seq ?_
  -- region 3  raft.go:80
  refine EW_region ?_
  refine EL_s rfl rfl rfl (os_lss rfl rfl) ?_
  refine EL_nil ?_
  refine EQ_then (EQ_wp ?_)
  refine EW_seq ?_
  refine EW_cond rfl (fun hc9 => ?_) (fun hc9 => ?_)
  · have hb9 := hc9
    try simp only [Bool.or_eq_true, Bool.and_eq_true, Bool.or_eq_false_iff, Bool.and_eq_false_iff, decide_eq_true_eq, decide_eq_false_iff_not, Bool.not_eq_true', Bool.not_eq_false', Int.natCast_inj, Int.ofNat_lt, Int.ofNat_le] at hc9
    refine EW_skip ?_
    refine EQ_then (EQ_wp ?_)
    refine EW_seq ?_
    refine EW_block ?_
    refine EW_seq ?_
    -- region 4  raft.go:80
    refine EW_region ?_
    have hl10 := (show s.h.n = s.xs.length from FRow.len hs)
    obtain ⟨x10, hx10⟩ := get_some (l := s.xs) (k := k) (by first | omega | (simp only [List.length_set, List.length_replicate, List.length_cons, List.length_nil]; omega) | (simp <;> omega))
    refine EL_s rfl rfl rfl (os_at (m := s.h.n) (k) rfl rfl (by omega) sl34 (by omega) (by have hz_ := FRow.some hs (by show 0 < s.h.n; omega); exact hz_)) ?_
    have hk11 := FRow.okAt hs hx10
    refine EL_s rfl rfl rfl (os_load_agg (cs := rEntry.cells x10) rfl agg125 (FRow.whole (FRow.mono hs hIJ0 ((Incl.refl _).skip _)) hx10)) ?_
    refine EL_a rfl rfl rfl (oa_alloc z125) ?_
    intro b5
    refine EL_u rfl rfl (ox_store rfl rfl sz125 rfl (by rfl) (.head .head)) ?_
    refine EL_nil ?_
    refine EQ_then (EQ_wp ?_)
    -- region 5 DRAWN  raft.go:81
    refine EW_drawC [] [⟨[], some 12, [3], .s, 0⟩, ⟨[], some 13, [5], .s, 0⟩, ⟨[1], some 14, [13], .s, 2⟩, ⟨[], some 15, [5], .s, 0⟩, ⟨[3], some 16, [15], .s, 8⟩, ⟨[4], some 17, [16], .g, 24⟩, ⟨[2, 5], some 18, [14, 17], .s, 62⟩, ⟨[6], some 19, [18], .a, 126⟩, ⟨[0, 7, 5], some 20, [12, 19], .x, 255⟩, ⟨[8, 8, 0, 1, 2, 3, 4, 5, 6, 7, 8], some 3, [20], .s, 511⟩] [.s, .s, .s, .s, .s, .g, .s, .a, .x, .s] [0, 1, 2, 3, 4, 5, 6, 7, 8, 9] mixed (by kernel_rfl) (by kernel_rfl) (by kernel_rfl) rfl rfl ?_
    refine EP_s rfl rfl rfl rfl rfl (by exact (os_move rfl)) ?_
    refine EP_s rfl rfl rfl rfl rfl (by exact (os_field rfl fl125_0)) ?_
    refine EP_s rfl rfl rfl rfl rfl (by exact (os_load_one rfl one22 (cells_own own_head rfl))) ?_
    refine EP_s rfl rfl rfl rfl rfl (by exact (os_field rfl fl125_1)) ?_
    refine EP_s rfl rfl rfl rfl rfl (by exact (os_load_one rfl one39 (cells_own own_head rfl))) ?_
    refine EP_g rfl rfl rfl rfl rfl (by exact (og_call (vs := [(x10.Data.v)]) body97 rfl (bytes_Clone (FRow.mono hk11.Data hIJ0 (Incl.nil _))))) ?_
    intro I17 v17 hI17 hv17
    obtain ⟨y17, rfl, hy17, hay17⟩ := hv17
    refine EP_s rfl rfl rfl rfl rfl (by exact (os_struct (cs := [_, _]) [(0, _), (1, _)] pl125 z125 rfl rfl)) ?_
    have hr_y19_0 : Entry.Ok I17 (Entry.mk x10.Term y17) := ⟨hk11.Term, (FRow.mono hy17 (.refl _) (.refl _))⟩
    refine EP_a rfl rfl rfl rfl rfl (by exact (oa_slice [_] sl34 z125 rfl rfl rfl rfl)) ?_
    intro b19
    have hob19 : OwnR rEntry I17 125 (Sl.mk (Hd.mk (some ⟨b19, 0, none⟩) 1 1) [(Entry.mk x10.Term y17)]) [(b19, .cells _ 125)] := OwnR.lit rfl rfl (by unfold maxLen; omega) (by decide) (fun x hx => by simp only [List.mem_cons, List.not_mem_nil, or_false] at hx; rcases hx with rfl <;> first | exact hr_y19_0)
    refine EP_y rfl rfl rfl rfl rfl (by exact (ox_app (R := rEntry) (bytes := 32) (s := o) (s' := (Sl.mk (Hd.mk (some ⟨b19, 0, none⟩) 1 1) [(Entry.mk x10.Term y17)])) 2 rfl rfl rfl rfl sl34 z125 rfl (ho.mono hI17) (bk_2 _ _ _ _) (OwnR.frow hob19 fun x hx => .inr (own_seg hx)) (by first | omega | (simp only [List.length_cons, List.length_nil, Nat.zero_add]; omega)) (by unfold maxLen; first | omega | (simp only [List.length_cons, List.length_nil, Nat.zero_add]; omega)))) ?_
    rintro L20 v20 ⟨s20, S20, rfl, rfl, hx20, ho20⟩
    refine EP_perm (bk_2 _ _ _ _) ?_
    refine EP_s rfl rfl rfl rfl rfl (by exact (os_assign rfl)) ?_
    refine EP_nil ?_
    refine EQ_block_normal ?_
    refine EQ_then (EQ_wp ?_)
    -- region 6  raft.go:80
    refine EW_region ?_
    refine EL_s rfl rfl rfl (os_addn (p := k) (q := 1) rfl rfl (IntWalk.i64_in _ (by omega))) ?_
    refine EL_s rfl rfl rfl (os_move rfl) ?_
    refine EL_nil ?_
    refine EQ_round (I17, (k + 1), S20, s20) ?_ ?_ ?_ ?_
    · exact ⟨(hIJ0.trans hI17), ⟨by omega, ho20, by rw [hx20]; simp only [List.map_append, ha]; simp only [List.map_cons, List.map_nil, Entry.abs, hay17]; rw [List.take_add_one]; simp [hx10, Entry.abs]⟩⟩
    · first | omega | (dsimp only; omega)
    · exact ⟨rfl, rfl, rfl, rfl, trivial⟩
    · exact fun w h => h.incl (Incl.skip (Incl.skip (Incl.cons (Incl.refl _) _) _) _)
  · have hb9 := hc9
    try simp only [Bool.or_eq_true, Bool.and_eq_true, Bool.or_eq_false_iff, Bool.and_eq_false_iff, decide_eq_true_eq, decide_eq_false_iff_not, Bool.not_eq_true', Bool.not_eq_false', Int.natCast_inj, Int.ofNat_lt, Int.ofNat_le] at hc9
    refine EW_exit ?_
    refine EQ_then_exit (EQ_then_exit (EQ_block_exit (?_)))
    refine EQ_then (EQ_wp ?_)
    refine EW_seq ?_
    -- region 7  raft.go:83
    refine EW_region ?_
    refine EL_s rfl rfl rfl (os_move rfl) ?_
    refine EL_s rfl rfl rfl (os_assign rfl) ?_
    refine EL_nil ?_
    refine EQ_then (EQ_wp ?_)
    refine EW_ret ?_
    refine EQ_freeze (.refl _) (fun Iz1_0 hIz1_0 hfz1_0 => ?_)
    have hzz1_0 : FRow rEntry Iz1_0 [] o := OwnR.frow (ho.mono hIz1_0) fun x hx => .inl (hfz1_0 x hx)
    exact pc_ret1 Try.results64 (rv_tmp rfl) (hIJ0.trans hIz1_0) (Incl.refl _) ⟨o, rfl, (FRow.mono hzz1_0 (.refl _) (.refl _)), (by rw [ha, List.take_of_length_le (by simp; omega)])⟩ (.inl rfl)

theorem rising {I : Gh} {L : List Seg} {s : Sl Entry} (hs : FRow rEntry I L s) (low : Nat) (high : Nat) : PC Try.prog 63 #[s.v, .int .u64 ((low : Nat) : Int), .int .u64 ((high : Nat) : Int)] I L fun K v => v = .bool (risingP (s.xs.map Entry.abs) low high) := by
  refine PC.of (n := 25) Try.func63 rfl Try.ntmps63 rfl fun I0 L0 hI0 hL0 => ?_
  have hs := FRow.mono hs hI0 hL0
  have hl_s := FRow.len hs
  have hf_s := hs.few
  simp only [rEntry] at hf_s
  refine EW_seq ?_
  -- region 0  raft.go:87
  refine EW_region ?_
  refine EL_s rfl rfl rfl (os_assign rfl) ?_
  refine EL_nil ?_
  refine EQ_then (EQ_wp ?_)
  refine EW_seq ?_
  refine EW_seq ?_
  -- region 1  raft.go:88
  refine EW_region ?_
  refine EL_s rfl rfl rfl (os_move rfl) ?_
  have hl10 := (show s.h.n = s.xs.length from FRow.len hs)
  refine EL_s rfl rfl rfl (os_len rfl sl34) ?_
  refine EL_s rfl rfl rfl (os_move rfl) ?_
  refine EL_nil ?_
  refine EQ_then (EQ_wp ?_)
  refine EW_block ?_
  refine EW_loop (σ := Nat × Nat) (fun ⟨k, lo⟩ => [(1, (.int .u64 ((lo : Nat) : Int))), (2, (.int .u64 ((high : Nat) : Int))), (9, (s.v)), (10, (.int .i64 ((s.h.n : Nat) : Int))), (11, (.int .i64 ((k : Nat) : Int)))]) (fun ⟨k, lo⟩ => I0) (fun ⟨k, lo⟩ => L0) (fun ⟨k, lo⟩ => k ≤ s.xs.length ∧ risingP (s.xs.map Entry.abs) low high = risingP ((s.xs.drop k).map Entry.abs) lo high) (fun ⟨k, lo⟩ => s.xs.length - k) (0, low) ⟨Nat.zero_le _, rfl⟩ ⟨rfl, rfl, rfl, rfl, rfl, trivial⟩ (fun w h => h) ?_
  rintro ⟨k, lo⟩ ⟨hk, hr⟩
  refine EW_seq ?_
  -- region 2  raft.go:88
  refine EW_region ?_
  refine EL_s rfl rfl rfl (os_lss rfl rfl) ?_
  refine EL_nil ?_
  refine EQ_then (EQ_wp ?_)
  refine EW_seq ?_
  refine EW_cond rfl (fun hc12 => ?_) (fun hc12 => ?_)
  · have hb12 := hc12
    try simp only [Bool.or_eq_true, Bool.and_eq_true, Bool.or_eq_false_iff, Bool.and_eq_false_iff, decide_eq_true_eq, decide_eq_false_iff_not, Bool.not_eq_true', Bool.not_eq_false', Int.natCast_inj, Int.ofNat_lt, Int.ofNat_le] at hc12
    refine EW_skip ?_
    refine EQ_then (EQ_wp ?_)
    refine EW_seq ?_
    refine EW_block ?_
    refine EW_seq ?_
    -- region 3  raft.go:88
    refine EW_region ?_
    have hl13 := (show s.h.n = s.xs.length from FRow.len hs)
    obtain ⟨x13, hx13⟩ := get_some (l := s.xs) (k := k) (by first | omega | (simp only [List.length_set, List.length_replicate, List.length_cons, List.length_nil]; omega) | (simp <;> omega))
    refine EL_s rfl rfl rfl (os_at (m := s.h.n) (k) rfl rfl (by omega) sl34 (by omega) (by have hz_ := FRow.some hs (by show 0 < s.h.n; omega); exact hz_)) ?_
    have hk14 := FRow.okAt hs hx13
    refine EL_s rfl rfl rfl (os_load_agg (cs := rEntry.cells x13) rfl agg125 (FRow.whole (FRow.mono hs (.refl _) (Incl.refl _)) hx13)) ?_
    refine EL_a rfl rfl rfl (oa_alloc z125) ?_
    intro b8
    refine EL_u rfl rfl (ox_store rfl rfl sz125 rfl (by rfl) (.head .head)) ?_
    refine EL_nil ?_
    refine EQ_then (EQ_wp ?_)
    refine EW_seq ?_
    refine EW_seq ?_
    -- region 4  raft.go:89
    refine EW_region ?_
    refine EL_s rfl rfl rfl (os_field rfl fl125_0) ?_
    refine EL_s rfl rfl rfl (os_load_one rfl one22 (cells_own own_head rfl)) ?_
    refine EL_s rfl rfl rfl (os_move rfl) ?_
    refine EL_s rfl rfl rfl (os_lss rfl rfl) ?_
    refine EL_nil ?_
    refine EQ_then (EQ_wp ?_)
    refine EW_cond rfl (fun hc18 => ?_) (fun hc18 => ?_)
    · have hb18 := hc18
      try simp only [Bool.or_eq_true, Bool.and_eq_true, Bool.or_eq_false_iff, Bool.and_eq_false_iff, decide_eq_true_eq, decide_eq_false_iff_not, Bool.not_eq_true', Bool.not_eq_false', Int.natCast_inj, Int.ofNat_lt, Int.ofNat_le] at hc18
      refine EW_seq ?_
      -- region 5  raft.go:90
      refine EW_region ?_
      refine EL_s rfl rfl rfl (os_assign rfl) ?_
      refine EL_nil ?_
      refine EQ_then (EQ_wp ?_)
      refine EW_ret ?_
      refine EQ_then_ret (EQ_block_ret (EQ_then_ret (EQ_then_ret (EQ_block_ret (EQ_then_ret (?_))))))
      exact pc_ret1 Try.results63 (rv_tmp rfl) (.refl _) ((Incl.refl _).skip _) (by rw [hr, drop_of_get hx13]; simp only [List.map_cons, risingP]; rw [if_pos (by simp only [Entry.abs]; omega)]) (.inl rfl)
    · have hb18 := hc18
      try simp only [Bool.or_eq_true, Bool.and_eq_true, Bool.or_eq_false_iff, Bool.and_eq_false_iff, decide_eq_true_eq, decide_eq_false_iff_not, Bool.not_eq_true', Bool.not_eq_false', Int.natCast_inj, Int.ofNat_lt, Int.ofNat_le] at hc18
      refine EW_skip ?_
      refine EQ_then (EQ_wp ?_)
      -- region 6  raft.go:92
      refine EW_region ?_
      refine EL_s rfl rfl rfl (os_field rfl fl125_0) ?_
      refine EL_s rfl rfl rfl (os_load_one rfl one22 (cells_own own_head rfl)) ?_
      refine EL_s rfl rfl rfl (os_assign rfl) ?_
      refine EL_nil ?_
      refine EQ_block_normal ?_
      refine EQ_then (EQ_wp ?_)
      -- region 7  raft.go:88
      refine EW_region ?_
      refine EL_s rfl rfl rfl (os_addn (p := k) (q := 1) rfl rfl (IntWalk.i64_in _ (by omega))) ?_
      refine EL_s rfl rfl rfl (os_move rfl) ?_
      refine EL_nil ?_
      refine EQ_round ((k + 1), x13.Term) ?_ ?_ ?_ ?_
      · exact ⟨by omega, by rw [hr, drop_of_get hx13]; simp only [List.map_cons, risingP]; rw [if_neg (by simp only [Entry.abs]; omega)]; rfl⟩
      · first | omega | (dsimp only; omega)
      · exact ⟨rfl, rfl, rfl, rfl, rfl, trivial⟩
      · exact fun w h => h.incl (Incl.skip (Incl.refl _) _)
  · have hb12 := hc12
    try simp only [Bool.or_eq_true, Bool.and_eq_true, Bool.or_eq_false_iff, Bool.and_eq_false_iff, decide_eq_true_eq, decide_eq_false_iff_not, Bool.not_eq_true', Bool.not_eq_false', Int.natCast_inj, Int.ofNat_lt, Int.ofNat_le] at hc12
    refine EW_exit ?_
    refine EQ_then_exit (EQ_then_exit (EQ_block_exit (?_)))
    refine EQ_then (EQ_wp ?_)
    refine EW_seq ?_
    -- region 8  raft.go:94
    refine EW_region ?_
    refine EL_s rfl rfl rfl (os_move rfl) ?_
    refine EL_s rfl rfl rfl (os_move rfl) ?_
    refine EL_s rfl rfl rfl (os_leq rfl rfl) ?_
    refine EL_s rfl rfl rfl (os_assign rfl) ?_
    refine EL_nil ?_
    refine EQ_then (EQ_wp ?_)
    refine EW_ret ?_
    exact pc_ret1 Try.results63 (rv_tmp rfl) (.refl _) (Incl.refl _) (by rw [hr, List.drop_eq_nil_of_le (by omega)]; simp [risingP]) (.inl rfl)

theorem n_Last {I : Gh} {L : List Seg} {br : Nat} {r : NodeP} {Ssr : List Seg} (hr : NodeAt I br r Ssr) (hSsr : Incl Ssr L) (hp0 : NodeP.Few r) : PC Try.prog 14 #[.pointer (some ⟨br, 0, none⟩)] I L fun K v => v = .int .u64 ((r.last : Nat) : Int) := by
  obtain ⟨xr, Sra, Srb, Src, Srd, rfl, rfl, hora, horb, horc, hord⟩ := hr
  refine PC.of (n := 16) Try.func14 rfl Try.ntmps14 rfl fun I0 L0 hI0 hL0 => ?_
  have hora := hora.mono hI0
  have horb := horb.mono hI0
  have horc := horc.mono hI0
  have hord := hord.mono hI0
  have hLbr := hSsr.trans hL0
  have hf0 := hp0
  obtain ⟨hfb, hfl, hft, hid0, hidn, hn5, hlim0, hlim1, hclk0, hclk1, hbt, htrm, hcmt⟩ := hf0
  simp only [Node.abs, List.length_map] at hfb hfl hft hid0 hidn hn5 hlim0 hlim1 hclk0 hclk1 hbt htrm hcmt
  have hltm := NodeP.lastTerm_le hp0
  have hlast : NodeP.last xr.abs = xr.Base + xr.Entries.xs.length := by simp [NodeP.last, Node.abs]
  refine EW_seq ?_
  -- region 0  raft.go:119
  refine EW_region ?_
  refine EL_s rfl rfl rfl (os_assign rfl) ?_
  refine EL_nil ?_
  refine EQ_then (EQ_wp ?_)
  refine EW_seq ?_
  -- region 1 DRAWN  raft.go:119
  refine EW_drawC [] [⟨[], some 3, [0], .s, 0⟩, ⟨[0], some 4, [3], .s, 1⟩, ⟨[1], some 5, [4], .s, 3⟩, ⟨[2], some 6, [5], .s, 7⟩, ⟨[3], some 7, [6], .s, 15⟩, ⟨[], some 8, [0], .s, 0⟩, ⟨[5], some 9, [8], .s, 32⟩, ⟨[6], some 10, [9], .s, 96⟩, ⟨[7], some 11, [10], .s, 224⟩, ⟨[8], some 12, [11], .s, 480⟩, ⟨[9], some 13, [12], .s, 992⟩, ⟨[10], some 14, [13], .s, 2016⟩, ⟨[4, 11], some 15, [7, 14], .s, 4095⟩, ⟨[12, 0, 1, 2, 3, 4, 5, 6, 7, 8, 9, 10, 11, 12], some 2, [15], .s, 8191⟩] [.s, .s, .s, .s, .s, .s, .s, .s, .s, .s, .s, .s, .s, .s] [0, 1, 2, 3, 4, 5, 6, 7, 8, 9, 10, 11, 12, 13] mixed (by kernel_rfl) (by kernel_rfl) (by kernel_rfl) rfl rfl ?_
  refine EP_s rfl rfl rfl rfl rfl (by exact (os_move rfl)) ?_
  refine EP_s rfl rfl rfl rfl rfl (by exact (os_nilCheck rfl)) ?_
  refine EP_s rfl rfl rfl rfl rfl (by exact (os_field rfl fl47_0)) ?_
  refine EP_s rfl rfl rfl rfl rfl (by exact (os_field rfl fl36_1)) ?_
  refine EP_s rfl rfl rfl rfl rfl (by exact (os_load_one rfl one22 (cells_own (hLbr.mem own_head) rfl))) ?_
  refine EP_s rfl rfl rfl rfl rfl (by exact (os_move rfl)) ?_
  refine EP_s rfl rfl rfl rfl rfl (by exact (os_nilCheck rfl)) ?_
  refine EP_s rfl rfl rfl rfl rfl (by exact (os_field rfl fl47_0)) ?_
  refine EP_s rfl rfl rfl rfl rfl (by exact (os_field rfl fl36_3)) ?_
  refine EP_s rfl rfl rfl rfl rfl (by exact (os_load_one rfl one34 (cells_own (hLbr.mem own_head) rfl))) ?_
  have hl13 := (show xr.Entries.h.n = xr.Entries.xs.length from OwnR.len hora)
  refine EP_s rfl rfl rfl rfl rfl (by exact (os_len rfl sl34)) ?_
  refine EP_s rfl rfl rfl rfl rfl (by exact (os_convn (p := xr.Entries.h.n) rfl ⟨_, int3⟩ int22 (IntWalk.u64_in _ (by omega)))) ?_
  refine EP_s rfl rfl rfl rfl rfl (by exact (os_addn (p := xr.Base) (q := xr.Entries.h.n) rfl rfl (IntWalk.u64_in _ (by omega)))) ?_
  refine EP_s rfl rfl rfl rfl rfl (by exact (os_assign rfl)) ?_
  refine EP_nil ?_
  refine EQ_then (EQ_wp ?_)
  refine EW_ret ?_
  exact pc_ret1 Try.results14 (rv_tmp rfl) (.refl _) (Incl.refl _) (by simp [NodeP.last, Node.abs, *]) (.inl rfl)

theorem n_TermAt {I : Gh} {L : List Seg} {br : Nat} {r : NodeP} {Ssr : List Seg} (hr : NodeAt I br r Ssr) (hSsr : Incl Ssr L) (i : Nat) (hp0 : NodeP.Few r) : PC Try.prog 23 #[.pointer (some ⟨br, 0, none⟩), .int .u64 ((i : Nat) : Int)] I L fun K v => v = .tuple #[.int .u64 (((r.termAt i).getD 0 : Nat) : Int), .bool ((r.termAt i).isSome)] := by
  obtain ⟨xr, Sra, Srb, Src, Srd, rfl, rfl, hora, horb, horc, hord⟩ := hr
  refine PC.of (n := 49) Try.func23 rfl Try.ntmps23 rfl fun I0 L0 hI0 hL0 => ?_
  have hora := hora.mono hI0
  have horb := horb.mono hI0
  have horc := horc.mono hI0
  have hord := hord.mono hI0
  have hLbr := hSsr.trans hL0
  have hf0 := hp0
  obtain ⟨hfb, hfl, hft, hid0, hidn, hn5, hlim0, hlim1, hclk0, hclk1, hbt, htrm, hcmt⟩ := hf0
  simp only [Node.abs, List.length_map] at hfb hfl hft hid0 hidn hn5 hlim0 hlim1 hclk0 hclk1 hbt htrm hcmt
  have hltm := NodeP.lastTerm_le hp0
  have hlast : NodeP.last xr.abs = xr.Base + xr.Entries.xs.length := by simp [NodeP.last, Node.abs]
  refine EW_seq ?_
  -- region 0  raft.go:122
  refine EW_region ?_
  refine EL_s rfl rfl rfl (os_assign rfl) ?_
  refine EL_s rfl rfl rfl (os_assign rfl) ?_
  refine EL_nil ?_
  refine EQ_then (EQ_wp ?_)
  refine EW_seq ?_
  refine EW_block ?_
  refine EW_seq ?_
  -- region 1  raft.go:124
  refine EW_region ?_
  refine EL_s rfl rfl rfl (os_move rfl) ?_
  refine EL_s rfl rfl rfl (os_move rfl) ?_
  refine EL_s rfl rfl rfl (os_nilCheck rfl) ?_
  refine EL_s rfl rfl rfl (os_field rfl fl47_0) ?_
  refine EL_s rfl rfl rfl (os_field rfl fl36_1) ?_
  refine EL_s rfl rfl rfl (os_load_one rfl one22 (cells_own (hLbr.mem own_head) rfl)) ?_
  refine EL_s rfl rfl rfl (os_lss rfl rfl) ?_
  refine EL_s rfl rfl rfl (os_move rfl) ?_
  refine EL_joint 5 19 (.bool ((decide (((i : Nat) : Int) < ((xr.Base : Nat) : Int))) || (decide (((((xr.abs).last) : Nat) : Int) < ((i : Nat) : Int))))) ?_ ?_
  · skip
    refine ES_case (decide (((i : Nat) : Int) < ((xr.Base : Nat) : Int))) (fun hg14 => ?_) (fun hg14 => ?_)
    · have hg14_ := hg14
      try simp only [Bool.or_eq_true, Bool.and_eq_true, Bool.or_eq_false_iff, Bool.and_eq_false_iff, decide_eq_true_eq, decide_eq_false_iff_not, Bool.not_eq_true', Bool.not_eq_false', Int.natCast_inj, Int.ofNat_lt, Int.ofNat_le] at hg14_
      refine ES_no rfl hg14 rfl rfl rfl rfl ?_
      refine ES_no rfl hg14 rfl rfl rfl rfl ?_
      refine ES_no rfl hg14 rfl rfl rfl rfl ?_
      refine ES_no rfl hg14 rfl rfl rfl rfl ?_
      refine ES_s rfl rfl rfl (os_pick_t' rfl hg14 rfl) ?_
      exact ES_fin 5 rfl rfl (by rw [hg14]; rfl)
    · have hg14_ := hg14
      try simp only [Bool.or_eq_true, Bool.and_eq_true, Bool.or_eq_false_iff, Bool.and_eq_false_iff, decide_eq_true_eq, decide_eq_false_iff_not, Bool.not_eq_true', Bool.not_eq_false', Int.natCast_inj, Int.ofNat_lt, Int.ofNat_le] at hg14_
      refine ES_yes (j := 7) (b := false) rfl rfl rfl hg14 rfl rfl (os_move rfl) ?_
      refine ES_yes (j := 7) (b := false) rfl rfl rfl hg14 rfl rfl (os_move rfl) ?_
      refine ES_yes (j := 7) (b := false) rfl rfl rfl hg14 rfl rfl (os_call (vs := [(.pointer (some ⟨br, 0, none⟩))]) body14 rfl (n_Last (NodeAt.intro xr hora horb horc hord) hLbr (by assumption))) ?_
      have hq17 : NodeP.last (xr.abs) = xr.Base + xr.Entries.xs.length := by simp [NodeP.last, Node.abs]
      refine ES_yes (j := 7) (b := false) rfl rfl rfl hg14 rfl rfl (os_gtr rfl rfl) ?_
      refine ES_s rfl rfl rfl (os_pick_f' rfl hg14 rfl) ?_
      exact ES_fin 5 rfl rfl (by rw [hg14]; rfl)
  refine EL_s rfl rfl rfl (os_assign rfl) ?_
  refine EL_nil ?_
  refine EQ_then (EQ_wp ?_)
  refine EW_cond rfl (fun hc6 => ?_) (fun hc6 => ?_)
  · have hb6 := hc6
    try simp only [Bool.or_eq_true, Bool.and_eq_true, Bool.or_eq_false_iff, Bool.and_eq_false_iff, decide_eq_true_eq, decide_eq_false_iff_not, Bool.not_eq_true', Bool.not_eq_false', Int.natCast_inj, Int.ofNat_lt, Int.ofNat_le] at hc6
    refine EW_seq ?_
    -- region 2  raft.go:125
    refine EW_region ?_
    refine EL_s rfl rfl rfl (os_assign rfl) ?_
    refine EL_s rfl rfl rfl (os_assign rfl) ?_
    refine EL_nil ?_
    refine EQ_then (EQ_wp ?_)
    refine EW_ret ?_
    refine EQ_block_ret (EQ_then_ret (?_))
    exact pc_ret2 Try.results23 (rv_tmp rfl) (rv_tmp rfl) (.refl _) (Incl.refl _) (by rw [show NodeP.termAt xr.abs i = none from if_pos hc6]; rfl) (.inl rfl)
  · have hb6 := hc6
    try simp only [Bool.or_eq_true, Bool.and_eq_true, Bool.or_eq_false_iff, Bool.and_eq_false_iff, decide_eq_true_eq, decide_eq_false_iff_not, Bool.not_eq_true', Bool.not_eq_false', Int.natCast_inj, Int.ofNat_lt, Int.ofNat_le] at hc6
    refine EW_seq ?_
    -- region 3  raft.go:126
    refine EW_region ?_
    refine EL_s rfl rfl rfl (os_move rfl) ?_
    refine EL_s rfl rfl rfl (os_move rfl) ?_
    refine EL_s rfl rfl rfl (os_nilCheck rfl) ?_
    refine EL_s rfl rfl rfl (os_field rfl fl47_0) ?_
    refine EL_s rfl rfl rfl (os_field rfl fl36_1) ?_
    refine EL_s rfl rfl rfl (os_load_one rfl one22 (cells_own (hLbr.mem own_head) rfl)) ?_
    refine EL_s rfl rfl rfl (os_eql rfl rfl) ?_
    refine EL_s rfl rfl rfl (os_assign rfl) ?_
    refine EL_nil ?_
    refine EQ_then (EQ_wp ?_)
    refine EW_cond rfl (fun hc20 => ?_) (fun hc20 => ?_)
    · have hb20 := hc20
      try simp only [Bool.or_eq_true, Bool.and_eq_true, Bool.or_eq_false_iff, Bool.and_eq_false_iff, decide_eq_true_eq, decide_eq_false_iff_not, Bool.not_eq_true', Bool.not_eq_false', Int.natCast_inj, Int.ofNat_lt, Int.ofNat_le] at hc20
      refine EW_seq ?_
      -- region 4  raft.go:127
      refine EW_region ?_
      refine EL_s rfl rfl rfl (os_move rfl) ?_
      refine EL_s rfl rfl rfl (os_nilCheck rfl) ?_
      refine EL_s rfl rfl rfl (os_field rfl fl47_0) ?_
      refine EL_s rfl rfl rfl (os_field rfl fl36_2) ?_
      refine EL_s rfl rfl rfl (os_load_one rfl one22 (cells_own (hLbr.mem own_head) rfl)) ?_
      refine EL_s rfl rfl rfl (os_assign rfl) ?_
      refine EL_s rfl rfl rfl (os_assign rfl) ?_
      refine EL_nil ?_
      refine EQ_then (EQ_wp ?_)
      refine EW_ret ?_
      refine EQ_block_ret (EQ_then_ret (?_))
      exact pc_ret2 Try.results23 (rv_tmp rfl) (rv_tmp rfl) (.refl _) (Incl.refl _) (by rw [show NodeP.termAt xr.abs i = some xr.BaseTerm by unfold NodeP.termAt; rw [if_neg (by rw [not_or]; exact hc6)]; exact if_pos hc20]; rfl) (.inl rfl)
    · have hb20 := hc20
      try simp only [Bool.or_eq_true, Bool.and_eq_true, Bool.or_eq_false_iff, Bool.and_eq_false_iff, decide_eq_true_eq, decide_eq_false_iff_not, Bool.not_eq_true', Bool.not_eq_false', Int.natCast_inj, Int.ofNat_lt, Int.ofNat_le] at hc20
      refine EW_skip ?_
      refine EQ_block_normal ?_
      refine EQ_then (EQ_wp ?_)
      refine EW_seq ?_
      -- region 5 DRAWN  raft.go:129
      refine EW_drawC [] [⟨[], some 33, [0], .s, 0⟩, ⟨[0], some 34, [33], .s, 1⟩, ⟨[1], some 35, [34], .s, 3⟩, ⟨[2], some 36, [35], .s, 7⟩, ⟨[3], some 37, [36], .s, 15⟩, ⟨[], some 38, [1], .s, 0⟩, ⟨[], some 39, [0], .s, 0⟩, ⟨[6], some 40, [39], .s, 64⟩, ⟨[7], some 41, [40], .s, 192⟩, ⟨[8], some 42, [41], .s, 448⟩, ⟨[9], some 43, [42], .s, 960⟩, ⟨[5, 10], some 44, [38, 43], .s, 2016⟩, ⟨[11], some 45, [44], .s, 4064⟩, ⟨[4, 12], some 46, [37, 45], .s, 8191⟩, ⟨[13], some 47, [46], .s, 16383⟩, ⟨[14], some 48, [47], .s, 32767⟩, ⟨[15, 0, 1, 2, 3, 4, 5, 6, 7, 8, 9, 10, 11, 12, 13, 14, 15], some 4, [48], .s, 65535⟩, ⟨[16, 0, 1, 2, 3, 4, 5, 6, 7, 8, 9, 10, 11, 12, 13, 14, 15, 16], some 5, [], .s, 131071⟩] [.s, .s, .s, .s, .s, .s, .s, .s, .s, .s, .s, .s, .s, .s, .s, .s, .s, .s] [0, 1, 2, 3, 4, 5, 6, 7, 8, 9, 10, 11, 12, 13, 14, 15, 16, 17] mixed (by kernel_rfl) (by kernel_rfl) (by kernel_rfl) rfl rfl ?_
      refine EP_s rfl rfl rfl rfl rfl (by exact (os_move rfl)) ?_
      refine EP_s rfl rfl rfl rfl rfl (by exact (os_nilCheck rfl)) ?_
      refine EP_s rfl rfl rfl rfl rfl (by exact (os_field rfl fl47_0)) ?_
      refine EP_s rfl rfl rfl rfl rfl (by exact (os_field rfl fl36_3)) ?_
      refine EP_s rfl rfl rfl rfl rfl (by exact (os_load_one rfl one34 (cells_own (hLbr.mem own_head) rfl))) ?_
      refine EP_s rfl rfl rfl rfl rfl (by exact (os_move rfl)) ?_
      refine EP_s rfl rfl rfl rfl rfl (by exact (os_move rfl)) ?_
      refine EP_s rfl rfl rfl rfl rfl (by exact (os_nilCheck rfl)) ?_
      refine EP_s rfl rfl rfl rfl rfl (by exact (os_field rfl fl47_0)) ?_
      refine EP_s rfl rfl rfl rfl rfl (by exact (os_field rfl fl36_1)) ?_
      refine EP_s rfl rfl rfl rfl rfl (by exact (os_load_one rfl one22 (cells_own (hLbr.mem own_head) rfl))) ?_
      refine EP_s rfl rfl rfl rfl rfl (by exact (os_subn (p := i) (q := xr.Base) rfl rfl (by omega) (IntWalk.u64_in _ (by omega)))) ?_
      refine EP_s rfl rfl rfl rfl rfl (by exact (os_subn (p := (i - xr.Base)) (q := 1) rfl rfl (by omega) (IntWalk.u64_in _ (by omega)))) ?_
      have hl46 := (show xr.Entries.h.n = xr.Entries.xs.length from OwnR.len hora)
      obtain ⟨x46, hx46⟩ := get_some (l := xr.Entries.xs) (k := ((i - xr.Base) - 1)) (by first | omega | (simp only [List.length_set, List.length_replicate, List.length_cons, List.length_nil]; omega) | (simp <;> omega))
      refine EP_s rfl rfl rfl rfl rfl (by exact (os_at (m := xr.Entries.h.n) (((i - xr.Base) - 1)) rfl rfl (by omega) sl34 (by omega) (by have hz_ := OwnR.some hora (by show 0 < xr.Entries.h.n; omega); exact hz_))) ?_
      refine EP_s rfl rfl rfl rfl rfl (by exact (os_fieldA rfl (OwnR.spotAt hora hx46) fl125_0)) ?_
      have hk48 := OwnR.okAt hora hx46
      refine EP_s rfl rfl rfl rfl rfl (by exact (os_load_one rfl one22 (FRow.cell (OwnR.frow hora fun x hx => .inr (hLbr.mem (own_tail (own_seg hx)))) hx46 0 rfl))) ?_
      refine EP_s rfl rfl rfl rfl rfl (by exact (os_assign rfl)) ?_
      refine EP_s rfl rfl rfl rfl rfl (by exact (os_assign rfl)) ?_
      refine EP_nil ?_
      refine EQ_then (EQ_wp ?_)
      refine EW_ret ?_
      exact pc_ret2 Try.results23 (rv_tmp rfl) (rv_tmp rfl) (.refl _) (Incl.refl _) (by rw [show NodeP.termAt xr.abs i = some x46.Term by unfold NodeP.termAt; rw [if_neg (by rw [not_or]; exact hc6)]; refine (if_neg hc20).trans ?_; simp [Node.abs, hx46, Entry.abs]]; rfl) (.inl rfl)

theorem n_lastTerm {I : Gh} {L : List Seg} {br : Nat} {r : NodeP} {Ssr : List Seg} (hr : NodeAt I br r Ssr) (hSsr : Incl Ssr L) (hp0 : NodeP.Few r) : PC Try.prog 108 #[.pointer (some ⟨br, 0, none⟩)] I L fun K v => v = .int .u64 ((r.lastTerm : Nat) : Int) := by
  obtain ⟨xr, Sra, Srb, Src, Srd, rfl, rfl, hora, horb, horc, hord⟩ := hr
  refine PC.of (n := 13) Try.func108 rfl Try.ntmps108 rfl fun I0 L0 hI0 hL0 => ?_
  have hora := hora.mono hI0
  have horb := horb.mono hI0
  have horc := horc.mono hI0
  have hord := hord.mono hI0
  have hLbr := hSsr.trans hL0
  have hf0 := hp0
  obtain ⟨hfb, hfl, hft, hid0, hidn, hn5, hlim0, hlim1, hclk0, hclk1, hbt, htrm, hcmt⟩ := hf0
  simp only [Node.abs, List.length_map] at hfb hfl hft hid0 hidn hn5 hlim0 hlim1 hclk0 hclk1 hbt htrm hcmt
  have hltm := NodeP.lastTerm_le hp0
  have hlast : NodeP.last xr.abs = xr.Base + xr.Entries.xs.length := by simp [NodeP.last, Node.abs]
  refine EW_seq ?_
  -- region 0  raft.go:141
  refine EW_region ?_
  refine EL_s rfl rfl rfl (os_assign rfl) ?_
  refine EL_nil ?_
  refine EQ_then (EQ_wp ?_)
  refine EW_seq ?_
  -- region 1  raft.go:142
  refine EW_region ?_
  refine EL_s rfl rfl rfl (os_move rfl) ?_
  refine EL_s rfl rfl rfl (os_move rfl) ?_
  refine EL_s rfl rfl rfl (os_call (vs := [(.pointer (some ⟨br, 0, none⟩))]) body14 rfl (n_Last (NodeAt.intro xr hora horb horc hord) hLbr (by assumption))) ?_
  have hq8 : NodeP.last (xr.abs) = xr.Base + xr.Entries.xs.length := by simp [NodeP.last, Node.abs]
  refine EL_s rfl rfl rfl (os_call (vs := [(.pointer (some ⟨br, 0, none⟩)), (.int .u64 ((((xr.abs).last) : Nat) : Int))]) body23 rfl (n_TermAt (NodeAt.intro xr hora horb horc hord) hLbr ((xr.abs).last) (by assumption))) ?_
  refine EL_s rfl rfl rfl (os_move rfl) ?_
  refine EL_s rfl rfl rfl (os_extract rfl rfl) ?_
  refine EL_s rfl rfl rfl (os_extract rfl rfl) ?_
  refine EL_s rfl rfl rfl (os_assign rfl) ?_
  refine EL_s rfl rfl rfl (os_assign rfl) ?_
  refine EL_nil ?_
  refine EQ_then (EQ_wp ?_)
  refine EW_seq ?_
  -- region 2  raft.go:143
  refine EW_region ?_
  refine EL_s rfl rfl rfl (os_move rfl) ?_
  refine EL_s rfl rfl rfl (os_assign rfl) ?_
  refine EL_nil ?_
  refine EQ_then (EQ_wp ?_)
  refine EW_ret ?_
  exact pc_ret1 Try.results108 (rv_tmp rfl) (.refl _) (Incl.refl _) (by simp [NodeP.lastTerm]) (.inl rfl)

theorem n_From {I : Gh} {L : List Seg} {br : Nat} {r : NodeP} {Ssr : List Seg} (hr : NodeAt I br r Ssr) (hSsr : Incl Ssr L) (i : Nat) (hp0 : NodeP.Few r) : PC Try.prog 22 #[.pointer (some ⟨br, 0, none⟩), .int .u64 ((i : Nat) : Int)] I L fun K v => ∃ (y0 : Sl Entry), v = y0.v ∧ FRow rEntry K [] y0 ∧ y0.xs.map Entry.abs = r.from_ i := by
  obtain ⟨xr, Sra, Srb, Src, Srd, rfl, rfl, hora, horb, horc, hord⟩ := hr
  refine PC.of (n := 31) Try.func22 rfl Try.ntmps22 rfl fun I0 L0 hI0 hL0 => ?_
  have hora := hora.mono hI0
  have horb := horb.mono hI0
  have horc := horc.mono hI0
  have hord := hord.mono hI0
  have hLbr := hSsr.trans hL0
  have hf0 := hp0
  obtain ⟨hfb, hfl, hft, hid0, hidn, hn5, hlim0, hlim1, hclk0, hclk1, hbt, htrm, hcmt⟩ := hf0
  simp only [Node.abs, List.length_map] at hfb hfl hft hid0 hidn hn5 hlim0 hlim1 hclk0 hclk1 hbt htrm hcmt
  have hltm := NodeP.lastTerm_le hp0
  have hlast : NodeP.last xr.abs = xr.Base + xr.Entries.xs.length := by simp [NodeP.last, Node.abs]
  refine EW_seq ?_
  -- region 0  raft.go:133
  refine EW_region ?_
  refine EL_s rfl rfl rfl (os_assign rfl) ?_
  refine EL_nil ?_
  refine EQ_then (EQ_wp ?_)
  refine EW_seq ?_
  refine EW_seq ?_
  -- region 1  raft.go:134
  refine EW_region ?_
  refine EL_s rfl rfl rfl (os_move rfl) ?_
  refine EL_s rfl rfl rfl (os_move rfl) ?_
  refine EL_s rfl rfl rfl (os_call (vs := [(.pointer (some ⟨br, 0, none⟩))]) body14 rfl (n_Last (NodeAt.intro xr hora horb horc hord) hLbr (by assumption))) ?_
  have hq7 : NodeP.last (xr.abs) = xr.Base + xr.Entries.xs.length := by simp [NodeP.last, Node.abs]
  refine EL_s rfl rfl rfl (os_gtr rfl rfl) ?_
  refine EL_nil ?_
  refine EQ_then (EQ_wp ?_)
  refine EW_cond rfl (fun hc8 => ?_) (fun hc8 => ?_)
  · have hb8 := hc8
    try simp only [Bool.or_eq_true, Bool.and_eq_true, Bool.or_eq_false_iff, Bool.and_eq_false_iff, decide_eq_true_eq, decide_eq_false_iff_not, Bool.not_eq_true', Bool.not_eq_false', Int.natCast_inj, Int.ofNat_lt, Int.ofNat_le] at hc8
    refine EW_seq ?_
    -- region 2  raft.go:135
    refine EW_region ?_
    refine EL_s rfl rfl rfl (os_assign rfl) ?_
    refine EL_nil ?_
    refine EQ_then (EQ_wp ?_)
    refine EW_ret ?_
    refine EQ_then_ret (?_)
    exact pc_ret1 Try.results22 (rv_tmp rfl) (.refl _) (Incl.refl _) ⟨(Sl.mk (Hd.mk none 0 0) []), rfl, (FRow.none _ _ _), (by simp [NodeP.from_, hc8])⟩ (.inl rfl)
  · have hb8 := hc8
    try simp only [Bool.or_eq_true, Bool.and_eq_true, Bool.or_eq_false_iff, Bool.and_eq_false_iff, decide_eq_true_eq, decide_eq_false_iff_not, Bool.not_eq_true', Bool.not_eq_false', Int.natCast_inj, Int.ofNat_lt, Int.ofNat_le] at hc8
    refine EW_skip ?_
    refine EQ_then (EQ_wp ?_)
    refine EW_seq ?_
    -- region 3 DRAWN  raft.go:137
    refine EW_drawC [] [⟨[], some 9, [0], .s, 0⟩, ⟨[0], some 10, [9], .s, 1⟩, ⟨[1], some 11, [10], .s, 3⟩, ⟨[2], some 12, [11], .s, 7⟩, ⟨[3], some 13, [12], .s, 15⟩, ⟨[], some 14, [1], .s, 0⟩, ⟨[], some 15, [0], .s, 0⟩, ⟨[6], some 16, [15], .s, 64⟩, ⟨[7], some 17, [16], .s, 192⟩, ⟨[8], some 18, [17], .s, 448⟩, ⟨[9], some 19, [18], .s, 960⟩, ⟨[10], some 20, [19], .s, 1984⟩, ⟨[5, 11], some 21, [14, 20], .s, 4064⟩, ⟨[], some 22, [0], .s, 0⟩, ⟨[13], some 23, [22], .s, 8192⟩, ⟨[14], some 24, [23], .s, 24576⟩, ⟨[15], some 25, [24], .s, 57344⟩, ⟨[16], some 26, [25], .s, 122880⟩, ⟨[12, 17], some 27, [21, 26], .s, 262112⟩, ⟨[18], some 28, [27], .s, 524256⟩, ⟨[4, 19], some 29, [13, 28], .s, 1048575⟩, ⟨[20], some 30, [29], .g, 2097151⟩, ⟨[21, 21, 0, 1, 2, 3, 4, 5, 6, 7, 8, 9, 10, 11, 12, 13, 14, 15, 16, 17, 18, 19, 20, 21], some 4, [30], .s, 4194303⟩] [.s, .s, .s, .s, .s, .s, .s, .s, .s, .s, .s, .s, .s, .s, .s, .s, .s, .s, .s, .s, .s, .g, .s] [0, 1, 2, 3, 4, 5, 6, 7, 8, 9, 10, 11, 12, 13, 14, 15, 16, 17, 18, 19, 20, 21, 22] mixed (by kernel_rfl) (by kernel_rfl) (by kernel_rfl) rfl rfl ?_
    refine EP_s rfl rfl rfl rfl rfl (by exact (os_move rfl)) ?_
    refine EP_s rfl rfl rfl rfl rfl (by exact (os_nilCheck rfl)) ?_
    refine EP_s rfl rfl rfl rfl rfl (by exact (os_field rfl fl47_0)) ?_
    refine EP_s rfl rfl rfl rfl rfl (by exact (os_field rfl fl36_3)) ?_
    refine EP_s rfl rfl rfl rfl rfl (by exact (os_load_one rfl one34 (cells_own (hLbr.mem own_head) rfl))) ?_
    refine EP_s rfl rfl rfl rfl rfl (by exact (os_move rfl)) ?_
    refine EP_s rfl rfl rfl rfl rfl (by exact (os_move rfl)) ?_
    refine EP_s rfl rfl rfl rfl rfl (by exact (os_nilCheck rfl)) ?_
    refine EP_s rfl rfl rfl rfl rfl (by exact (os_field rfl fl47_0)) ?_
    refine EP_s rfl rfl rfl rfl rfl (by exact (os_field rfl fl36_1)) ?_
    refine EP_s rfl rfl rfl rfl rfl (by exact (os_load_one rfl one22 (cells_own (hLbr.mem own_head) rfl))) ?_
    refine EP_s rfl rfl rfl rfl rfl (by exact (os_addn (p := xr.Base) (q := 1) rfl rfl (IntWalk.u64_in _ (by omega)))) ?_
    refine EP_s rfl rfl rfl rfl rfl (by exact (os_maxn (p := i) (q := (xr.Base + 1)) rfl rfl)) ?_
    refine EP_s rfl rfl rfl rfl rfl (by exact (os_move rfl)) ?_
    refine EP_s rfl rfl rfl rfl rfl (by exact (os_nilCheck rfl)) ?_
    refine EP_s rfl rfl rfl rfl rfl (by exact (os_field rfl fl47_0)) ?_
    refine EP_s rfl rfl rfl rfl rfl (by exact (os_field rfl fl36_1)) ?_
    refine EP_s rfl rfl rfl rfl rfl (by exact (os_load_one rfl one22 (cells_own (hLbr.mem own_head) rfl))) ?_
    refine EP_s rfl rfl rfl rfl rfl (by exact (os_subn (p := (max i (xr.Base + 1))) (q := xr.Base) rfl rfl (by omega) (IntWalk.u64_in _ (by omega)))) ?_
    refine EP_s rfl rfl rfl rfl rfl (by exact (os_subn (p := ((max i (xr.Base + 1)) - xr.Base)) (q := 1) rfl rfl (by omega) (IntWalk.u64_in _ (by omega)))) ?_
    have hl29 := (show xr.Entries.h.n = xr.Entries.xs.length from OwnR.len hora)
    have hn29 := (show xr.Entries.h.n ≤ xr.Entries.h.c from OwnR.nle hora)
    have hs29 := (FRow.subS (l := (((max i (xr.Base + 1)) - xr.Base) - 1)) (u := xr.Entries.h.n) 2 rfl (OwnR.frowS hora) (by omega) (by omega))
    refine EP_s rfl rfl rfl rfl rfl (by exact (os_sub_slice (k := .u64) (k' := .i64) (((max i (xr.Base + 1)) - xr.Base) - 1) xr.Entries.h.n rfl sl34 ⟨_, rfl, by omega⟩ rfl (by omega) (by omega))) ?_
    refine EP_g rfl rfl rfl rfl rfl (by exact (og_call (vs := [((subSl 2 xr.Entries (((max i (xr.Base + 1)) - xr.Base) - 1) xr.Entries.h.n).v)]) body64 rfl (twins (FRow.mono hs29 (.refl _) (Incl.trans (Incl.skip (Incl.cons (Incl.skip (Incl.skip (Incl.skip (Incl.refl _) _) _) _) _) _) hLbr))))) ?_
    intro I30 v30 hI30 hv30
    obtain ⟨y30, rfl, hy30, hay30⟩ := hv30
    refine EP_s rfl rfl rfl rfl rfl (by exact (os_assign rfl)) ?_
    refine EP_nil ?_
    refine EQ_then (EQ_wp ?_)
    refine EW_ret ?_
    exact pc_ret1 Try.results22 (rv_tmp rfl) hI30 (Incl.refl _) ⟨y30, rfl, (FRow.mono hy30 (.refl _) (.refl _)), (by rw [NodeP.from_, if_neg hc8, hay30]; simp [subSl, Node.abs, List.map_drop, hl29, List.take_of_length_le])⟩ (.inl rfl)

theorem n_Role {I : Gh} {L : List Seg} {br : Nat} {r : NodeP} {Ssr : List Seg} (hr : NodeAt I br r Ssr) (hSsr : Incl Ssr L) : PC Try.prog 30 #[.pointer (some ⟨br, 0, none⟩)] I L fun K v => v = .int .i64 (r.role) := by
  obtain ⟨xr, Sra, Srb, Src, Srd, rfl, rfl, hora, horb, horc, hord⟩ := hr
  refine PC.of (n := 7) Try.func30 rfl Try.ntmps30 rfl fun I0 L0 hI0 hL0 => ?_
  have hora := hora.mono hI0
  have horb := horb.mono hI0
  have horc := horc.mono hI0
  have hord := hord.mono hI0
  have hLbr := hSsr.trans hL0
  refine EW_seq ?_
  -- region 0  raft.go:110
  refine EW_region ?_
  refine EL_s rfl rfl rfl (os_assign rfl) ?_
  refine EL_nil ?_
  refine EQ_then (EQ_wp ?_)
  refine EW_seq ?_
  -- region 1  raft.go:110
  refine EW_region ?_
  refine EL_s rfl rfl rfl (os_move rfl) ?_
  refine EL_s rfl rfl rfl (os_nilCheck rfl) ?_
  refine EL_s rfl rfl rfl (os_field rfl fl47_4) ?_
  refine EL_s rfl rfl rfl (os_load_one rfl one3 (cells_own (hLbr.mem own_head) rfl)) ?_
  refine EL_s rfl rfl rfl (os_assign rfl) ?_
  refine EL_nil ?_
  refine EQ_then (EQ_wp ?_)
  refine EW_ret ?_
  exact pc_ret1 Try.results30 (rv_tmp rfl) (.refl _) (Incl.refl _) (by simp [Node.abs]) (.inl rfl)

theorem n_Lead {I : Gh} {L : List Seg} {br : Nat} {r : NodeP} {Ssr : List Seg} (hr : NodeAt I br r Ssr) (hSsr : Incl Ssr L) : PC Try.prog 33 #[.pointer (some ⟨br, 0, none⟩)] I L fun K v => v = .int .i64 (r.lead) := by
  obtain ⟨xr, Sra, Srb, Src, Srd, rfl, rfl, hora, horb, horc, hord⟩ := hr
  refine PC.of (n := 7) Try.func33 rfl Try.ntmps33 rfl fun I0 L0 hI0 hL0 => ?_
  have hora := hora.mono hI0
  have horb := horb.mono hI0
  have horc := horc.mono hI0
  have hord := hord.mono hI0
  have hLbr := hSsr.trans hL0
  refine EW_seq ?_
  -- region 0  raft.go:113
  refine EW_region ?_
  refine EL_s rfl rfl rfl (os_assign rfl) ?_
  refine EL_nil ?_
  refine EQ_then (EQ_wp ?_)
  refine EW_seq ?_
  -- region 1  raft.go:113
  refine EW_region ?_
  refine EL_s rfl rfl rfl (os_move rfl) ?_
  refine EL_s rfl rfl rfl (os_nilCheck rfl) ?_
  refine EL_s rfl rfl rfl (os_field rfl fl47_5) ?_
  refine EL_s rfl rfl rfl (os_load_one rfl one3 (cells_own (hLbr.mem own_head) rfl)) ?_
  refine EL_s rfl rfl rfl (os_assign rfl) ?_
  refine EL_nil ?_
  refine EQ_then (EQ_wp ?_)
  refine EW_ret ?_
  exact pc_ret1 Try.results33 (rv_tmp rfl) (.refl _) (Incl.refl _) (by simp [Node.abs]) (.inl rfl)

theorem n_Commit {I : Gh} {L : List Seg} {br : Nat} {r : NodeP} {Ssr : List Seg} (hr : NodeAt I br r Ssr) (hSsr : Incl Ssr L) : PC Try.prog 15 #[.pointer (some ⟨br, 0, none⟩)] I L fun K v => v = .int .u64 ((r.commit : Nat) : Int) := by
  obtain ⟨xr, Sra, Srb, Src, Srd, rfl, rfl, hora, horb, horc, hord⟩ := hr
  refine PC.of (n := 7) Try.func15 rfl Try.ntmps15 rfl fun I0 L0 hI0 hL0 => ?_
  have hora := hora.mono hI0
  have horb := horb.mono hI0
  have horc := horc.mono hI0
  have hord := hord.mono hI0
  have hLbr := hSsr.trans hL0
  refine EW_seq ?_
  -- region 0  raft.go:116
  refine EW_region ?_
  refine EL_s rfl rfl rfl (os_assign rfl) ?_
  refine EL_nil ?_
  refine EQ_then (EQ_wp ?_)
  refine EW_seq ?_
  -- region 1  raft.go:116
  refine EW_region ?_
  refine EL_s rfl rfl rfl (os_move rfl) ?_
  refine EL_s rfl rfl rfl (os_nilCheck rfl) ?_
  refine EL_s rfl rfl rfl (os_field rfl fl47_6) ?_
  refine EL_s rfl rfl rfl (os_load_one rfl one22 (cells_own (hLbr.mem own_head) rfl)) ?_
  refine EL_s rfl rfl rfl (os_assign rfl) ?_
  refine EL_nil ?_
  refine EQ_then (EQ_wp ?_)
  refine EW_ret ?_
  exact pc_ret1 Try.results15 (rv_tmp rfl) (.refl _) (Incl.refl _) (by simp [Node.abs]) (.inl rfl)


end Go.Proofs.Ytlhibbjnhdcffaa
