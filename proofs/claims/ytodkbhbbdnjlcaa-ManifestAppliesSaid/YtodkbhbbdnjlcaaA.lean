/- Proved here: the part A of the proof that the law of this seat returns true for every input; no condition. -/
import Derived.Test.YtodkbhbbdnjlcaaTy
import Derived.Test.YtodkbhbbdnjlcaaD
set_option maxRecDepth 20000
set_option linter.unusedVariables false
set_option linter.unusedSimpArgs false
namespace Go.Proofs.Ytodkbhbbdnjlcaa
open Go Go.Gl

theorem isNaN_int {I : Gh} {L : List Seg} (x : Int) : PC Try.prog 40 #[.int .i64 x] I L fun K v => v = .bool false := by
  refine PC.of (n := 6) Try.func40 rfl Try.ntmps40 rfl fun I0 L0 hI0 hL0 => ?_
  refine EW_seq ?_
  -- region 0  cmp.go:63
  refine EW_region ?_
  refine EL_s rfl rfl rfl (os_assign rfl) ?_
  refine EL_nil ?_
  refine EQ_then (EQ_wp ?_)
  refine EW_seq ?_
  -- region 1  cmp.go:64
  refine EW_region ?_
  refine EL_s rfl rfl rfl (os_move rfl) ?_
  refine EL_s rfl rfl rfl (os_move rfl) ?_
  refine EL_s rfl rfl rfl (os_neq rfl rfl) ?_
  refine EL_s rfl rfl rfl (os_assign rfl) ?_
  refine EL_nil ?_
  refine EQ_then (EQ_wp ?_)
  refine EW_ret ?_
  exact pc_ret1 Try.results40 (rv_tmp rfl) (.refl _) (.refl _) (by simp) (.inl rfl)

theorem Compare_int {I : Gh} {L : List Seg} (x y : Int) : PC Try.prog 33 #[.int .i64 x, .int .i64 y] I L fun K v => v = .int .i64 (cmpI x y) := by
  refine PC.of (n := 20) Try.func33 rfl Try.ntmps33 rfl fun I0 L0 hI0 hL0 => ?_
  refine EW_seq ?_
  -- region 0  cmp.go:40
  refine EW_region ?_
  refine EL_s rfl rfl rfl (os_assign rfl) ?_
  refine EL_nil ?_
  refine EQ_then (EQ_wp ?_)
  refine EW_seq ?_
  -- region 1  cmp.go:41
  refine EW_region ?_
  refine EL_s rfl rfl rfl (os_move rfl) ?_
  refine EL_s rfl rfl rfl (os_call (vs := [_]) body40 rfl (isNaN_int _)) ?_
  refine EL_s rfl rfl rfl (os_assign rfl) ?_
  refine EL_nil ?_
  refine EQ_then (EQ_wp ?_)
  refine EW_seq ?_
  -- region 2  cmp.go:42
  refine EW_region ?_
  refine EL_s rfl rfl rfl (os_move rfl) ?_
  refine EL_s rfl rfl rfl (os_call (vs := [_]) body40 rfl (isNaN_int _)) ?_
  refine EL_s rfl rfl rfl (os_assign rfl) ?_
  refine EL_nil ?_
  refine EQ_then (EQ_wp ?_)
  refine EW_seq ?_
  refine EW_seq ?_
  -- region 3  cmp.go:43
  refine EW_region ?_
  refine EL_s rfl rfl rfl (os_move rfl) ?_
  refine EL_nil ?_
  refine EQ_then (EQ_wp ?_)
  refine EW_false rfl ?_
  refine EW_skip ?_
  refine EQ_then (EQ_wp ?_)
  refine EW_seq ?_
  refine EW_seq ?_
  -- region 7  cmp.go:49
  refine EW_region ?_
  refine EL_s rfl rfl rfl (os_move rfl) ?_
  refine EL_nil ?_
  refine EQ_then (EQ_wp ?_)
  refine EW_false rfl ?_
  refine EW_skip ?_
  refine EQ_then (EQ_wp ?_)
  refine EW_seq ?_
  refine EW_seq ?_
  -- region 9  cmp.go:52
  refine EW_region ?_
  refine EL_s rfl rfl rfl (os_move rfl) ?_
  refine EL_s rfl rfl rfl (os_move rfl) ?_
  refine EL_s rfl rfl rfl (os_lss rfl rfl) ?_
  refine EL_nil ?_
  refine EQ_then (EQ_wp ?_)
  refine EW_cond rfl (fun h => ?_) (fun h => ?_)
  · try simp only [decide_eq_true_eq, decide_eq_false_iff_not, Bool.not_eq_true', Bool.not_eq_false'] at h
    refine EW_seq ?_
    -- region 10  cmp.go:53
    refine EW_region ?_
    refine EL_s rfl rfl rfl (os_assign rfl) ?_
    refine EL_nil ?_
    refine EQ_then (EQ_wp ?_)
    refine EW_ret ?_
    refine EQ_then_ret (?_)
    exact pc_ret1 Try.results33 (rv_tmp rfl) (.refl _) (.refl _) (by simp [cmpI, *]) (.inl rfl)
  · try simp only [decide_eq_true_eq, decide_eq_false_iff_not, Bool.not_eq_true', Bool.not_eq_false'] at h
    refine EW_skip ?_
    refine EQ_then (EQ_wp ?_)
    refine EW_seq ?_
    refine EW_seq ?_
    -- region 11  cmp.go:55
    refine EW_region ?_
    refine EL_s rfl rfl rfl (os_move rfl) ?_
    refine EL_s rfl rfl rfl (os_move rfl) ?_
    refine EL_s rfl rfl rfl (os_gtr rfl rfl) ?_
    refine EL_nil ?_
    refine EQ_then (EQ_wp ?_)
    refine EW_cond rfl (fun h => ?_) (fun h => ?_)
    · try simp only [decide_eq_true_eq, decide_eq_false_iff_not, Bool.not_eq_true', Bool.not_eq_false'] at h
      refine EW_seq ?_
      -- region 12  cmp.go:56
      refine EW_region ?_
      refine EL_s rfl rfl rfl (os_assign rfl) ?_
      refine EL_nil ?_
      refine EQ_then (EQ_wp ?_)
      refine EW_ret ?_
      refine EQ_then_ret (?_)
      exact pc_ret1 Try.results33 (rv_tmp rfl) (.refl _) (.refl _) (by simp [cmpI, *]) (.inl rfl)
    · try simp only [decide_eq_true_eq, decide_eq_false_iff_not, Bool.not_eq_true', Bool.not_eq_false'] at h
      refine EW_skip ?_
      refine EQ_then (EQ_wp ?_)
      refine EW_seq ?_
      -- region 13  cmp.go:58
      refine EW_region ?_
      refine EL_s rfl rfl rfl (os_assign rfl) ?_
      refine EL_nil ?_
      refine EQ_then (EQ_wp ?_)
      refine EW_ret ?_
      exact pc_ret1 Try.results33 (rv_tmp rfl) (.refl _) (.refl _) (by simp [cmpI, *]) (.inl rfl)

theorem isNaN_uint64 {I : Gh} {L : List Seg} (x : Int) : PC Try.prog 41 #[.int .u64 x] I L fun K v => v = .bool false := by
  refine PC.of (n := 6) Try.func41 rfl Try.ntmps41 rfl fun I0 L0 hI0 hL0 => ?_
  refine EW_seq ?_
  -- region 0  cmp.go:63
  refine EW_region ?_
  refine EL_s rfl rfl rfl (os_assign rfl) ?_
  refine EL_nil ?_
  refine EQ_then (EQ_wp ?_)
  refine EW_seq ?_
  -- region 1  cmp.go:64
  refine EW_region ?_
  refine EL_s rfl rfl rfl (os_move rfl) ?_
  refine EL_s rfl rfl rfl (os_move rfl) ?_
  refine EL_s rfl rfl rfl (os_neq rfl rfl) ?_
  refine EL_s rfl rfl rfl (os_assign rfl) ?_
  refine EL_nil ?_
  refine EQ_then (EQ_wp ?_)
  refine EW_ret ?_
  exact pc_ret1 Try.results41 (rv_tmp rfl) (.refl _) (.refl _) (by simp) (.inl rfl)

theorem Compare_uint64 {I : Gh} {L : List Seg} (x y : Int) : PC Try.prog 34 #[.int .u64 x, .int .u64 y] I L fun K v => v = .int .i64 (cmpI x y) := by
  refine PC.of (n := 20) Try.func34 rfl Try.ntmps34 rfl fun I0 L0 hI0 hL0 => ?_
  refine EW_seq ?_
  -- region 0  cmp.go:40
  refine EW_region ?_
  refine EL_s rfl rfl rfl (os_assign rfl) ?_
  refine EL_nil ?_
  refine EQ_then (EQ_wp ?_)
  refine EW_seq ?_
  -- region 1  cmp.go:41
  refine EW_region ?_
  refine EL_s rfl rfl rfl (os_move rfl) ?_
  refine EL_s rfl rfl rfl (os_call (vs := [_]) body41 rfl (isNaN_uint64 _)) ?_
  refine EL_s rfl rfl rfl (os_assign rfl) ?_
  refine EL_nil ?_
  refine EQ_then (EQ_wp ?_)
  refine EW_seq ?_
  -- region 2  cmp.go:42
  refine EW_region ?_
  refine EL_s rfl rfl rfl (os_move rfl) ?_
  refine EL_s rfl rfl rfl (os_call (vs := [_]) body41 rfl (isNaN_uint64 _)) ?_
  refine EL_s rfl rfl rfl (os_assign rfl) ?_
  refine EL_nil ?_
  refine EQ_then (EQ_wp ?_)
  refine EW_seq ?_
  refine EW_seq ?_
  -- region 3  cmp.go:43
  refine EW_region ?_
  refine EL_s rfl rfl rfl (os_move rfl) ?_
  refine EL_nil ?_
  refine EQ_then (EQ_wp ?_)
  refine EW_false rfl ?_
  refine EW_skip ?_
  refine EQ_then (EQ_wp ?_)
  refine EW_seq ?_
  refine EW_seq ?_
  -- region 7  cmp.go:49
  refine EW_region ?_
  refine EL_s rfl rfl rfl (os_move rfl) ?_
  refine EL_nil ?_
  refine EQ_then (EQ_wp ?_)
  refine EW_false rfl ?_
  refine EW_skip ?_
  refine EQ_then (EQ_wp ?_)
  refine EW_seq ?_
  refine EW_seq ?_
  -- region 9  cmp.go:52
  refine EW_region ?_
  refine EL_s rfl rfl rfl (os_move rfl) ?_
  refine EL_s rfl rfl rfl (os_move rfl) ?_
  refine EL_s rfl rfl rfl (os_lss rfl rfl) ?_
  refine EL_nil ?_
  refine EQ_then (EQ_wp ?_)
  refine EW_cond rfl (fun h => ?_) (fun h => ?_)
  · try simp only [decide_eq_true_eq, decide_eq_false_iff_not, Bool.not_eq_true', Bool.not_eq_false'] at h
    refine EW_seq ?_
    -- region 10  cmp.go:53
    refine EW_region ?_
    refine EL_s rfl rfl rfl (os_assign rfl) ?_
    refine EL_nil ?_
    refine EQ_then (EQ_wp ?_)
    refine EW_ret ?_
    refine EQ_then_ret (?_)
    exact pc_ret1 Try.results34 (rv_tmp rfl) (.refl _) (.refl _) (by simp [cmpI, *]) (.inl rfl)
  · try simp only [decide_eq_true_eq, decide_eq_false_iff_not, Bool.not_eq_true', Bool.not_eq_false'] at h
    refine EW_skip ?_
    refine EQ_then (EQ_wp ?_)
    refine EW_seq ?_
    refine EW_seq ?_
    -- region 11  cmp.go:55
    refine EW_region ?_
    refine EL_s rfl rfl rfl (os_move rfl) ?_
    refine EL_s rfl rfl rfl (os_move rfl) ?_
    refine EL_s rfl rfl rfl (os_gtr rfl rfl) ?_
    refine EL_nil ?_
    refine EQ_then (EQ_wp ?_)
    refine EW_cond rfl (fun h => ?_) (fun h => ?_)
    · try simp only [decide_eq_true_eq, decide_eq_false_iff_not, Bool.not_eq_true', Bool.not_eq_false'] at h
      refine EW_seq ?_
      -- region 12  cmp.go:56
      refine EW_region ?_
      refine EL_s rfl rfl rfl (os_assign rfl) ?_
      refine EL_nil ?_
      refine EQ_then (EQ_wp ?_)
      refine EW_ret ?_
      refine EQ_then_ret (?_)
      exact pc_ret1 Try.results34 (rv_tmp rfl) (.refl _) (.refl _) (by simp [cmpI, *]) (.inl rfl)
    · try simp only [decide_eq_true_eq, decide_eq_false_iff_not, Bool.not_eq_true', Bool.not_eq_false'] at h
      refine EW_skip ?_
      refine EQ_then (EQ_wp ?_)
      refine EW_seq ?_
      -- region 13  cmp.go:58
      refine EW_region ?_
      refine EL_s rfl rfl rfl (os_assign rfl) ?_
      refine EL_nil ?_
      refine EQ_then (EQ_wp ?_)
      refine EW_ret ?_
      exact pc_ret1 Try.results34 (rv_tmp rfl) (.refl _) (.refl _) (by simp [cmpI, *]) (.inl rfl)

theorem bytes_Compare {I : Gh} {L : List Seg} {a a' : Option Addr} {m c m' c' : Nat} {l l' : List UInt8} (h1 : Bytes I L a m c l) (h2 : Bytes I L a' m' c' l') : PC Try.prog 32 #[.slice a m c, .slice a' m' c'] I L fun K v => v = .int .i64 (cmpB l l') := by
  refine PC.of (n := 8) Try.func32 rfl Try.ntmps32 rfl fun I0 L0 hI0 hL0 => ?_
  refine EW_seq ?_
  -- region 0  bytes.go:28
  refine EW_region ?_
  refine EL_s rfl rfl rfl (os_assign rfl) ?_
  refine EL_nil ?_
  refine EQ_then (EQ_wp ?_)
  refine EW_seq ?_
  -- region 1  bytes.go:29
  refine EW_region ?_
  refine EL_s rfl rfl rfl (os_move rfl) ?_
  refine EL_s rfl rfl rfl (os_move rfl) ?_
  refine EL_s rfl rfl rfl (os_ext (vs := [_, _]) rfl fun J M w hJ hM hw => run_bytealg_Compare Try.func39 rfl rfl rfl (by kernel_rfl) (h1.mono hI0 hL0) (h2.mono hI0 hL0) hJ hM hw) ?_
  refine EL_s rfl rfl rfl (os_assign rfl) ?_
  refine EL_nil ?_
  refine EQ_then (EQ_wp ?_)
  refine EW_ret ?_
  exact pc_ret1 Try.results32 (rv_tmp rfl) (.refl _) (.refl _) rfl (.inl rfl)

theorem codec_Cmp {I : Gh} {L : List Seg} {a a' : Option Addr} {m c m' c' : Nat} {l l' : List UInt8} (h1 : Bytes I L a m c l) (h2 : Bytes I L a' m' c' l') : PC Try.prog 16 #[.slice a m c, .slice a' m' c'] I L fun K v => v = .int .i64 (cmpB l l') := by
  refine PC.of (n := 8) Try.func16 rfl Try.ntmps16 rfl fun I0 L0 hI0 hL0 => ?_
  refine EW_seq ?_
  -- region 0  codec.go:124
  refine EW_region ?_
  refine EL_s rfl rfl rfl (os_assign rfl) ?_
  refine EL_nil ?_
  refine EQ_then (EQ_wp ?_)
  refine EW_seq ?_
  -- region 1  codec.go:124
  refine EW_region ?_
  refine EL_s rfl rfl rfl (os_move rfl) ?_
  refine EL_s rfl rfl rfl (os_move rfl) ?_
  refine EL_s rfl rfl rfl (os_call (vs := [_, _]) body32 rfl (bytes_Compare (h1.mono hI0 hL0) (h2.mono hI0 hL0))) ?_
  refine EL_s rfl rfl rfl (os_assign rfl) ?_
  refine EL_nil ?_
  refine EQ_then (EQ_wp ?_)
  refine EW_ret ?_
  exact pc_ret1 Try.results16 (rv_tmp rfl) (.refl _) (.refl _) rfl (.inl rfl)

theorem ref_Cmp {I : Gh} {L : List Seg} {a a' : Option Addr} {m c m' c' : Nat} {l l' : List UInt8} (h1 : Bytes I L a m c l) (h2 : Bytes I L a' m' c' l') : PC Try.prog 19 #[.slice a m c, .slice a' m' c'] I L fun K v => v = .int .i64 (cmpB l l') := by
  refine PC.of (n := 46) Try.func19 rfl Try.ntmps19 rfl fun I0 L0 hI0 hL0 => ?_
  have h1 := h1.mono hI0 hL0
  have h2 := h2.mono hI0 hL0
  have e1 := Bytes.len h1
  have e2 := Bytes.len h2
  have b1 := h1.le
  have b2 := h1.cap
  unfold maxLen at b2
  refine EW_seq ?_
  -- region 0  ref.go:239
  refine EW_region ?_
  refine EL_s rfl rfl rfl (os_assign rfl) ?_
  refine EL_nil ?_
  refine EQ_then (EQ_wp ?_)
  refine EW_seq ?_
  refine EW_seq ?_
  -- region 1  ref.go:240
  refine EW_region ?_
  refine EL_s rfl rfl rfl (os_assign rfl) ?_
  refine EL_nil ?_
  refine EQ_then (EQ_wp ?_)
  refine EW_block ?_
  refine EW_loop (σ := Nat) (fun k => [(0, .slice a m c), (1, .slice a' m' c'), (5, .int .i64 (k : Int))]) (fun k => I0) (fun k => L0) (fun k => k ≤ m ∧ k ≤ m' ∧ l.take k = l'.take k) (fun k => m - k) 0 ⟨Nat.zero_le _, Nat.zero_le _, rfl⟩ (by exact ⟨rfl, rfl, rfl, trivial⟩) (fun w h => h) ?_
  rintro k ⟨hk1, hk2, hk3⟩
  refine EW_seq ?_
  refine EW_seq ?_
  -- region 2  ref.go:240
  refine EW_region ?_
  refine EL_s rfl rfl rfl (os_move rfl) ?_
  refine EL_s rfl rfl rfl (os_move rfl) ?_
  refine EL_s rfl rfl rfl (os_len rfl sl49) ?_
  refine EL_s rfl rfl rfl (os_lss rfl rfl) ?_
  refine EL_s rfl rfl rfl (os_move rfl) ?_
  refine EL_split (t := 10) rfl (fun h => ?_) (fun h => ?_)
  · try simp only [decide_eq_true_eq, decide_eq_false_iff_not, Bool.not_eq_true', Bool.not_eq_false'] at h
    refine EL_yes (j := 4) (d := 10) (b := true) rfl rfl rfl ?_
    refine EL_s rfl rfl rfl (os_move rfl) ?_
    refine EL_yes (j := 4) (d := 10) (b := true) rfl rfl rfl ?_
    refine EL_s rfl rfl rfl (os_move rfl) ?_
    refine EL_yes (j := 4) (d := 10) (b := true) rfl rfl rfl ?_
    refine EL_s rfl rfl rfl (os_len rfl sl49) ?_
    refine EL_yes (j := 4) (d := 10) (b := true) rfl rfl rfl ?_
    refine EL_s rfl rfl rfl (os_lss rfl rfl) ?_
    refine EL_s rfl rfl rfl (os_pick_t rfl rfl) ?_
    refine EL_nil ?_
    refine EQ_then (EQ_wp ?_)
    refine EW_cond rfl (fun h => ?_) (fun h => ?_)
    · try simp only [decide_eq_true_eq, decide_eq_false_iff_not, Bool.not_eq_true', Bool.not_eq_false'] at h
      refine EW_skip ?_
      refine EQ_then (EQ_wp ?_)
      refine EW_seq ?_
      refine EW_block ?_
      refine EW_seq ?_
      refine EW_seq ?_
      obtain ⟨x, hx⟩ := get_some (l := l) (k := k) (by omega)
      obtain ⟨y, hy⟩ := get_some (l := l') (k := k) (by omega)
      -- region 4 DRAWN  ref.go:241
      refine EW_draw [] [.s, .s, .s, .s, .s, .s, .s, .s, .s] [0, 1, 2, 3, 4, 5, 6, 7, 8] mixed (by kernel_rfl) (by kernel_rfl) rfl ?_
      refine EP_s rfl rfl rfl rfl rfl (by exact (os_move rfl)) ?_
      refine EP_s rfl rfl rfl rfl rfl (by exact (os_move rfl)) ?_
      refine EP_s rfl rfl rfl rfl rfl (by exact (os_at (k) rfl rfl (by omega) sl49 (by omega) (h1.some (by omega)))) ?_
      refine EP_s rfl rfl rfl rfl rfl (by exact (os_load_one rfl one5 (Bytes.cell h1 hx (.refl _) (.refl _)))) ?_
      refine EP_s rfl rfl rfl rfl rfl (by exact (os_move rfl)) ?_
      refine EP_s rfl rfl rfl rfl rfl (by exact (os_move rfl)) ?_
      refine EP_s rfl rfl rfl rfl rfl (by exact (os_at (k) rfl rfl (by omega) sl49 (by omega) (h2.some (by omega)))) ?_
      refine EP_s rfl rfl rfl rfl rfl (by exact (os_load_one rfl one5 (Bytes.cell h2 hy (.refl _) (.refl _)))) ?_
      refine EP_s rfl rfl rfl rfl rfl (by exact (os_lss rfl rfl)) ?_
      refine EP_nil ?_
      refine EQ_then (EQ_wp ?_)
      refine EW_cond rfl (fun h => ?_) (fun h => ?_)
      · try simp only [decide_eq_true_eq, decide_eq_false_iff_not, Bool.not_eq_true', Bool.not_eq_false'] at h
        refine EW_seq ?_
        -- region 5  ref.go:242
        refine EW_region ?_
        refine EL_s rfl rfl rfl (os_assign rfl) ?_
        refine EL_nil ?_
        refine EQ_then (EQ_wp ?_)
        refine EW_ret ?_
        refine EQ_then_ret (EQ_block_ret (EQ_then_ret (EQ_then_ret (EQ_block_ret (EQ_then_ret (?_))))))
        exact pc_ret1 Try.results19 (rv_tmp rfl) (.refl _) (.refl _) (by rw [cmpB_at hk3 hx hy, if_pos h]) (.inl rfl)
      · try simp only [decide_eq_true_eq, decide_eq_false_iff_not, Bool.not_eq_true', Bool.not_eq_false'] at h
        rename_i h0 _
        have h_1 := h
        refine EW_skip ?_
        refine EQ_then (EQ_wp ?_)
        refine EW_seq ?_
        -- region 6 DRAWN  ref.go:244
        refine EW_draw [] [.s, .s, .s, .s, .s, .s, .s, .s, .s] [0, 1, 2, 3, 4, 5, 6, 7, 8] mixed (by kernel_rfl) (by kernel_rfl) rfl ?_
        refine EP_s rfl rfl rfl rfl rfl (by exact (os_move rfl)) ?_
        refine EP_s rfl rfl rfl rfl rfl (by exact (os_move rfl)) ?_
        refine EP_s rfl rfl rfl rfl rfl (by exact (os_at (k) rfl rfl (by omega) sl49 (by omega) (h1.some (by omega)))) ?_
        refine EP_s rfl rfl rfl rfl rfl (by exact (os_load_one rfl one5 (Bytes.cell h1 hx (.refl _) (.refl _)))) ?_
        refine EP_s rfl rfl rfl rfl rfl (by exact (os_move rfl)) ?_
        refine EP_s rfl rfl rfl rfl rfl (by exact (os_move rfl)) ?_
        refine EP_s rfl rfl rfl rfl rfl (by exact (os_at (k) rfl rfl (by omega) sl49 (by omega) (h2.some (by omega)))) ?_
        refine EP_s rfl rfl rfl rfl rfl (by exact (os_load_one rfl one5 (Bytes.cell h2 hy (.refl _) (.refl _)))) ?_
        refine EP_s rfl rfl rfl rfl rfl (by exact (os_gtr rfl rfl)) ?_
        refine EP_nil ?_
        refine EQ_then (EQ_wp ?_)
        refine EW_cond rfl (fun h => ?_) (fun h => ?_)
        · try simp only [decide_eq_true_eq, decide_eq_false_iff_not, Bool.not_eq_true', Bool.not_eq_false'] at h
          refine EW_seq ?_
          -- region 7  ref.go:245
          refine EW_region ?_
          refine EL_s rfl rfl rfl (os_assign rfl) ?_
          refine EL_nil ?_
          refine EQ_then (EQ_wp ?_)
          refine EW_ret ?_
          refine EQ_block_ret (EQ_then_ret (EQ_then_ret (EQ_block_ret (EQ_then_ret (?_)))))
          exact pc_ret1 Try.results19 (rv_tmp rfl) (.refl _) (.refl _) (by rw [cmpB_at hk3 hx hy, if_neg h_1, if_pos h]) (.inl rfl)
        · try simp only [decide_eq_true_eq, decide_eq_false_iff_not, Bool.not_eq_true', Bool.not_eq_false'] at h
          refine EW_skip ?_
          refine EQ_block_normal ?_
          refine EQ_then (EQ_wp ?_)
          -- region 3  ref.go:240
          refine EW_region ?_
          refine EL_s rfl rfl rfl (os_move rfl) ?_
          refine EL_s rfl rfl rfl (os_add_in rfl rfl (IntWalk.i64_in _ (by omega))) ?_
          refine EL_s rfl rfl rfl (os_assign rfl) ?_
          refine EL_nil ?_
          refine EQ_round (k + 1) ?_ ?_ ?_ ?_
          · exact ⟨by omega, by omega, take_succ_of hk3 hx (by rw [u8_eq h_1 h]; exact hy)⟩
          · exact (by omega)
          · exact ⟨rfl, rfl, rfl, trivial⟩
          · exact fun w h => h
    · try simp only [decide_eq_true_eq, decide_eq_false_iff_not, Bool.not_eq_true', Bool.not_eq_false'] at h
      refine EW_exit ?_
      refine EQ_then_exit (EQ_then_exit (EQ_block_exit (?_)))
      refine EQ_then (EQ_wp ?_)
      refine EW_seq ?_
      refine EW_seq ?_
      -- region 8  ref.go:248
      refine EW_region ?_
      refine EL_s rfl rfl rfl (os_move rfl) ?_
      refine EL_s rfl rfl rfl (os_len rfl sl49) ?_
      refine EL_s rfl rfl rfl (os_move rfl) ?_
      refine EL_s rfl rfl rfl (os_len rfl sl49) ?_
      refine EL_s rfl rfl rfl (os_lss rfl rfl) ?_
      refine EL_nil ?_
      refine EQ_then (EQ_wp ?_)
      refine EW_cond rfl (fun h => ?_) (fun h => ?_)
      · try simp only [decide_eq_true_eq, decide_eq_false_iff_not, Bool.not_eq_true', Bool.not_eq_false'] at h
        refine EW_seq ?_
        -- region 9  ref.go:249
        refine EW_region ?_
        refine EL_s rfl rfl rfl (os_assign rfl) ?_
        refine EL_nil ?_
        refine EQ_then (EQ_wp ?_)
        refine EW_ret ?_
        refine EQ_then_ret (?_)
        exact pc_ret1 Try.results19 (rv_tmp rfl) (.refl _) (.refl _) (by rw [cmpB_end hk3 (by omega) (by omega) (by omega)]; rw [← e1, ← e2]; split <;> (try split) <;> first | rfl | (exfalso; omega)) (.inl rfl)
      · try simp only [decide_eq_true_eq, decide_eq_false_iff_not, Bool.not_eq_true', Bool.not_eq_false'] at h
        refine EW_skip ?_
        refine EQ_then (EQ_wp ?_)
        refine EW_seq ?_
        refine EW_seq ?_
        -- region 10  ref.go:251
        refine EW_region ?_
        refine EL_s rfl rfl rfl (os_move rfl) ?_
        refine EL_s rfl rfl rfl (os_len rfl sl49) ?_
        refine EL_s rfl rfl rfl (os_move rfl) ?_
        refine EL_s rfl rfl rfl (os_len rfl sl49) ?_
        refine EL_s rfl rfl rfl (os_gtr rfl rfl) ?_
        refine EL_nil ?_
        refine EQ_then (EQ_wp ?_)
        refine EW_cond rfl (fun h => ?_) (fun h => ?_)
        · try simp only [decide_eq_true_eq, decide_eq_false_iff_not, Bool.not_eq_true', Bool.not_eq_false'] at h
          refine EW_seq ?_
          -- region 11  ref.go:252
          refine EW_region ?_
          refine EL_s rfl rfl rfl (os_assign rfl) ?_
          refine EL_nil ?_
          refine EQ_then (EQ_wp ?_)
          refine EW_ret ?_
          refine EQ_then_ret (?_)
          exact pc_ret1 Try.results19 (rv_tmp rfl) (.refl _) (.refl _) (by rw [cmpB_end hk3 (by omega) (by omega) (by omega)]; rw [← e1, ← e2]; split <;> (try split) <;> first | rfl | (exfalso; omega)) (.inl rfl)
        · try simp only [decide_eq_true_eq, decide_eq_false_iff_not, Bool.not_eq_true', Bool.not_eq_false'] at h
          refine EW_skip ?_
          refine EQ_then (EQ_wp ?_)
          refine EW_seq ?_
          -- region 12  ref.go:254
          refine EW_region ?_
          refine EL_s rfl rfl rfl (os_assign rfl) ?_
          refine EL_nil ?_
          refine EQ_then (EQ_wp ?_)
          refine EW_ret ?_
          exact pc_ret1 Try.results19 (rv_tmp rfl) (.refl _) (.refl _) (by rw [cmpB_end hk3 (by omega) (by omega) (by omega)]; rw [← e1, ← e2]; split <;> (try split) <;> first | rfl | (exfalso; omega)) (.inl rfl)
  · try simp only [decide_eq_true_eq, decide_eq_false_iff_not, Bool.not_eq_true', Bool.not_eq_false'] at h
    refine EL_no rfl rfl rfl rfl rfl rfl ?_
    refine EL_no rfl rfl rfl rfl rfl rfl ?_
    refine EL_no rfl rfl rfl rfl rfl rfl ?_
    refine EL_no rfl rfl rfl rfl rfl rfl ?_
    refine EL_s rfl rfl rfl (os_pick_f rfl rfl) ?_
    refine EL_nil ?_
    refine EQ_then (EQ_wp ?_)
    refine EW_false rfl ?_
    refine EW_exit ?_
    refine EQ_then_exit (EQ_then_exit (EQ_block_exit (?_)))
    refine EQ_then (EQ_wp ?_)
    refine EW_seq ?_
    refine EW_seq ?_
    -- region 8  ref.go:248
    refine EW_region ?_
    refine EL_s rfl rfl rfl (os_move rfl) ?_
    refine EL_s rfl rfl rfl (os_len rfl sl49) ?_
    refine EL_s rfl rfl rfl (os_move rfl) ?_
    refine EL_s rfl rfl rfl (os_len rfl sl49) ?_
    refine EL_s rfl rfl rfl (os_lss rfl rfl) ?_
    refine EL_nil ?_
    refine EQ_then (EQ_wp ?_)
    refine EW_cond rfl (fun h => ?_) (fun h => ?_)
    · try simp only [decide_eq_true_eq, decide_eq_false_iff_not, Bool.not_eq_true', Bool.not_eq_false'] at h
      refine EW_seq ?_
      -- region 9  ref.go:249
      refine EW_region ?_
      refine EL_s rfl rfl rfl (os_assign rfl) ?_
      refine EL_nil ?_
      refine EQ_then (EQ_wp ?_)
      refine EW_ret ?_
      refine EQ_then_ret (?_)
      exact pc_ret1 Try.results19 (rv_tmp rfl) (.refl _) (.refl _) (by rw [cmpB_end hk3 (by omega) (by omega) (by omega)]; rw [← e1, ← e2]; split <;> (try split) <;> first | rfl | (exfalso; omega)) (.inl rfl)
    · try simp only [decide_eq_true_eq, decide_eq_false_iff_not, Bool.not_eq_true', Bool.not_eq_false'] at h
      refine EW_skip ?_
      refine EQ_then (EQ_wp ?_)
      refine EW_seq ?_
      refine EW_seq ?_
      -- region 10  ref.go:251
      refine EW_region ?_
      refine EL_s rfl rfl rfl (os_move rfl) ?_
      refine EL_s rfl rfl rfl (os_len rfl sl49) ?_
      refine EL_s rfl rfl rfl (os_move rfl) ?_
      refine EL_s rfl rfl rfl (os_len rfl sl49) ?_
      refine EL_s rfl rfl rfl (os_gtr rfl rfl) ?_
      refine EL_nil ?_
      refine EQ_then (EQ_wp ?_)
      refine EW_cond rfl (fun h => ?_) (fun h => ?_)
      · try simp only [decide_eq_true_eq, decide_eq_false_iff_not, Bool.not_eq_true', Bool.not_eq_false'] at h
        refine EW_seq ?_
        -- region 11  ref.go:252
        refine EW_region ?_
        refine EL_s rfl rfl rfl (os_assign rfl) ?_
        refine EL_nil ?_
        refine EQ_then (EQ_wp ?_)
        refine EW_ret ?_
        refine EQ_then_ret (?_)
        exact pc_ret1 Try.results19 (rv_tmp rfl) (.refl _) (.refl _) (by rw [cmpB_end hk3 (by omega) (by omega) (by omega)]; rw [← e1, ← e2]; split <;> (try split) <;> first | rfl | (exfalso; omega)) (.inl rfl)
      · try simp only [decide_eq_true_eq, decide_eq_false_iff_not, Bool.not_eq_true', Bool.not_eq_false'] at h
        refine EW_skip ?_
        refine EQ_then (EQ_wp ?_)
        refine EW_seq ?_
        -- region 12  ref.go:254
        refine EW_region ?_
        refine EL_s rfl rfl rfl (os_assign rfl) ?_
        refine EL_nil ?_
        refine EQ_then (EQ_wp ?_)
        refine EW_ret ?_
        exact pc_ret1 Try.results19 (rv_tmp rfl) (.refl _) (.refl _) (by rw [cmpB_end hk3 (by omega) (by omega) (by omega)]; rw [← e1, ← e2]; split <;> (try split) <;> first | rfl | (exfalso; omega)) (.inl rfl)


end Go.Proofs.Ytodkbhbbdnjlcaa
