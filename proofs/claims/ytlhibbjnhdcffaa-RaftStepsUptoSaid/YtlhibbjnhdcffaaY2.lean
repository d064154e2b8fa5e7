/- Proved here: the part Y2 of the proof that the law of this seat returns true for every input; no condition. -/
import Derived.Test.YtlhibbjnhdcffaaX1
import Derived.Test.YtlhibbjnhdcffaaZ1
set_option maxRecDepth 20000
set_option linter.unusedVariables false
set_option linter.unusedSimpArgs false
namespace Go.Proofs.Ytlhibbjnhdcffaa
open Go Go.Gl

theorem new_three {n : Int} {s : StateRP} (h1 : 1 ≤ n) (h5 : n ≤ 5) (h : newErr 0 n 3 s ≠ 0) : newErr 0 n 3 s = 3 := by
  have hz : newErr 0 n 3 s = if s.Vote < -1 ∨ n ≤ s.Vote ∨ risingP s.Entries s.BaseTerm s.Term = false ∨ 4611686018427387904 < s.Base ∨ 4611686018427387904 < s.Term then 3 else 0 := if_neg (by omega)
  rw [hz] at h ⊢
  split
  · rfl
  · rename_i hq
    rw [if_neg hq] at h
    exact absurd rfl h
set_option maxHeartbeats 2000000 in
theorem l_stepsb {I : Gh} {L : List Seg} (n : Int) {f : Form} (hf : Form.Ok I f) {notes : Sl Note} (hnotes : FRow rNote I L notes) (hp0 : newErr 0 n 3 (stateOf (cutF f.abs)) ≠ 0) : PC Try.prog 3 #[.int .i64 n, .agg (f.cells).toArray, notes.v] I L fun K v => v = .bool (true) := by
  refine PC.of (n := 364) Try.func3 rfl Try.ntmps3 rfl fun I0 L0 hI0 hL0 => ?_
  have hf := hf.mono hI0
  have hnotes := FRow.mono hnotes hI0 hL0
  have hl_notes := FRow.len hnotes
  have hf_notes := hnotes.few
  simp only [rNote] at hf_notes
  have hfl := FRow.len hf.Terms
  have hfw0 := hf.Terms.few
  have hft := hf.Term
  have hfv := hf.Vote
  refine EW_seq ?_
  -- region 0  law.go:276
  refine EW_region ?_
  refine EL_a rfl rfl rfl (oa_box rfl) ?_
  intro b4
  refine EL_s rfl rfl rfl (os_assign rfl) ?_
  refine EL_nil ?_
  refine EQ_then (EQ_wp ?_)
  refine EW_seq ?_
  refine EW_seq ?_
  -- region 1  law.go:277
  refine EW_region ?_
  refine EL_s rfl rfl rfl (os_call (vs := []) body11 rfl l_awake) ?_
  refine EL_s rfl rfl rfl (os_not rfl) ?_
  refine EL_nil ?_
  refine EQ_then (EQ_wp ?_)
  refine EW_cond rfl (fun hc27 => ?_) (fun hc27 => ?_)
  · have hb27 := hc27
    try simp only [Bool.or_eq_true, Bool.and_eq_true, Bool.or_eq_false_iff, Bool.and_eq_false_iff, decide_eq_true_eq, decide_eq_false_iff_not, Bool.not_eq_true', Bool.not_eq_false', Int.natCast_inj, Int.ofNat_lt, Int.ofNat_le] at hc27
    cases hc27
  · have hb27 := hc27
    try simp only [Bool.or_eq_true, Bool.and_eq_true, Bool.or_eq_false_iff, Bool.and_eq_false_iff, decide_eq_true_eq, decide_eq_false_iff_not, Bool.not_eq_true', Bool.not_eq_false', Int.natCast_inj, Int.ofNat_lt, Int.ofNat_le] at hc27
    refine EW_skip ?_
    refine EQ_then (EQ_wp ?_)
    refine EW_seq_cut (σ := (Sl Nat)) (fun ts => [(0, (.int .i64 n)), (2, (notes.v)), (4, (.pointer (some ⟨b4, 0, none⟩)))]) (fun ts => I0) (fun ts => [(b4, .cells #[(.int .u64 ((f.Term : Nat) : Int)), (.int .i64 f.Vote), (.int .u64 ((f.Base : Nat) : Int)), (.int .u64 ((f.BaseTerm : Nat) : Int)), (ts.v)] 25)] :: L0) (fun ts => FRow rU64 I0 [] ts ∧ ts.xs = f.Terms.xs.take 30) ?_ ?_
    · skip
      refine EW_seq ?_
      -- region 3  law.go:280
      refine EW_region ?_
      refine EL_s rfl rfl rfl (os_field rfl fl25_4) ?_
      refine EL_s rfl rfl rfl (os_load_one rfl one23 (cells_own own_head rfl)) ?_
      have hl30 := (show f.Terms.h.n = f.Terms.xs.length from FRow.len hf.Terms)
      refine EL_s rfl rfl rfl (os_len rfl sl23) ?_
      refine EL_s rfl rfl rfl (os_gtr rfl rfl) ?_
      refine EL_nil ?_
      refine EQ_then (EQ_wp ?_)
      refine EW_cond rfl (fun hc31 => ?_) (fun hc31 => ?_)
      · have hb31 := hc31
        try simp only [Bool.or_eq_true, Bool.and_eq_true, Bool.or_eq_false_iff, Bool.and_eq_false_iff, decide_eq_true_eq, decide_eq_false_iff_not, Bool.not_eq_true', Bool.not_eq_false', Int.natCast_inj, Int.ofNat_lt, Int.ofNat_le] at hc31
        -- region 4  law.go:281
        refine EW_region ?_
        refine EL_s rfl rfl rfl (os_field rfl fl25_4) ?_
        refine EL_s rfl rfl rfl (os_load_one rfl one23 (cells_own own_head rfl)) ?_
        have hl34 := (show f.Terms.h.n = f.Terms.xs.length from FRow.len hf.Terms)
        have hn34 := (show f.Terms.h.n ≤ f.Terms.h.c from FRow.nle hf.Terms)
        have hs34 := (FRow.subS (l := 0) (u := 30) 1 rfl hf.Terms (by omega) (by omega))
        refine EL_s rfl rfl rfl (os_sub_slice (k := .i64) (k' := .i64) 0 30 rfl sl23 rfl ⟨_, rfl, by omega⟩ (by omega) (by omega)) ?_
        refine EL_s rfl rfl rfl (os_field rfl fl25_4) ?_
        refine EL_u rfl rfl (ox_store rfl rfl sz23 rfl (by rfl) (.head .head)) ?_
        refine EL_nil ?_
        refine EQ_cut ((subSl 1 f.Terms 0 30)) ?_ ?_ ?_
        · exact ⟨(FRow.mono hs34 (.refl _) (Incl.nil _)), by show List.extract _ 0 30 = _; rw [List.extract_eq_take_drop]; simp⟩
        · exact ⟨rfl, rfl, rfl, trivial⟩
        · exact fun w h => h.incl (Incl.cons (Incl.refl _) _)
      · have hb31 := hc31
        try simp only [Bool.or_eq_true, Bool.and_eq_true, Bool.or_eq_false_iff, Bool.and_eq_false_iff, decide_eq_true_eq, decide_eq_false_iff_not, Bool.not_eq_true', Bool.not_eq_false', Int.natCast_inj, Int.ofNat_lt, Int.ofNat_le] at hc31
        refine EW_skip ?_
        refine EQ_cut (f.Terms) ?_ ?_ ?_
        · exact ⟨(FRow.mono hf.Terms (.refl _) (Incl.nil _)), by rw [List.take_of_length_le (by omega)]⟩
        · exact ⟨rfl, rfl, rfl, trivial⟩
        · exact fun w h => h.incl (Incl.cons (Incl.refl _) _)
    · rintro ts ⟨hts, hts2⟩
      have htl := FRow.len hts
      have hts3 : ts.xs.length ≤ 30 := by rw [hts2, List.length_take]; omega
      refine EW_seq ?_
      -- region 5  law.go:283
      refine EW_region ?_
      refine EL_s rfl rfl rfl (os_move rfl) ?_
      refine EL_s rfl rfl rfl (os_load_agg (cs := [_, _, _, _, _]) rfl agg25 (cells_own own_head rfl)) ?_
      have hr_a39_0 : Form.Ok I0 (Form.mk f.Term f.Vote f.Base f.BaseTerm ts) := ⟨hf.Term, hf.Vote, hf.Base, hf.BaseTerm, (FRow.mono hts (.refl _) (.refl _))⟩
      refine EL_g rfl rfl rfl (og_call (vs := [.agg ((Form.mk f.Term f.Vote f.Base f.BaseTerm ts).cells).toArray]) body13 rfl (l_state hr_a39_0 (by show ts.xs.length ≤ 1048576; omega))) ?_
      intro I39 v39 hI39 hv39
      obtain ⟨y39, rfl, hy39, hay39⟩ := hv39
      have hnew : newErr 0 n 3 y39.abs ≠ 0 := by rw [hay39]; show newErr 0 n 3 (stateOf ⟨f.Term, f.Vote, f.Base, f.BaseTerm, ts.xs⟩) ≠ 0; rw [hts2]; exact hp0
      refine EL_g rfl rfl rfl (og_call (vs := [(.int .i64 0), (.int .i64 n), (.int .i64 3), .agg (y39.cells).toArray]) body12 rfl (n_Newb 0 n 3 hy39 hnew)) ?_
      intro I40 v40 hI40 hv40
      subst hv40
      refine EL_s rfl rfl rfl (os_move rfl) ?_
      refine EL_s rfl rfl rfl (os_extract rfl rfl) ?_
      refine EL_s rfl rfl rfl (os_extract rfl rfl) ?_
      refine EL_s rfl rfl rfl (os_assign rfl) ?_
      refine EL_s rfl rfl rfl (os_assign rfl) ?_
      refine EL_nil ?_
      refine EQ_then (EQ_wp ?_)
      refine EW_seq ?_
      -- region 6  law.go:284
      refine EW_region ?_
      refine EL_s rfl rfl rfl (os_field rfl fl25_1) ?_
      refine EL_s rfl rfl rfl (os_load_one rfl one3 (cells_own own_head rfl)) ?_
      refine EL_s rfl rfl rfl (os_geq rfl rfl) ?_
      refine EL_s rfl rfl rfl (os_move rfl) ?_
      refine EL_joint 5 51 (.bool ((decide ((-1) ≤ f.Vote)) && (decide (f.Vote < n)))) ?_ ?_
      · skip
        refine ES_case (decide ((-1) ≤ f.Vote)) (fun hg46 => ?_) (fun hg46 => ?_)
        · have hg46_ := hg46
          try simp only [Bool.or_eq_true, Bool.and_eq_true, Bool.or_eq_false_iff, Bool.and_eq_false_iff, decide_eq_true_eq, decide_eq_false_iff_not, Bool.not_eq_true', Bool.not_eq_false', Int.natCast_inj, Int.ofNat_lt, Int.ofNat_le] at hg46_
          refine ES_yes (j := 3) (b := true) rfl rfl rfl hg46 rfl rfl (os_field rfl fl25_1) ?_
          refine ES_yes (j := 3) (b := true) rfl rfl rfl hg46 rfl rfl (os_load_one rfl one3 (cells_own own_head rfl)) ?_
          refine ES_yes (j := 3) (b := true) rfl rfl rfl hg46 rfl rfl (os_move rfl) ?_
          refine ES_yes (j := 3) (b := true) rfl rfl rfl hg46 rfl rfl (os_lss rfl rfl) ?_
          refine ES_s rfl rfl rfl (os_pick_t' rfl hg46 rfl) ?_
          exact ES_fin 5 rfl rfl (by rw [hg46]; rfl)
        · have hg46_ := hg46
          try simp only [Bool.or_eq_true, Bool.and_eq_true, Bool.or_eq_false_iff, Bool.and_eq_false_iff, decide_eq_true_eq, decide_eq_false_iff_not, Bool.not_eq_true', Bool.not_eq_false', Int.natCast_inj, Int.ofNat_lt, Int.ofNat_le] at hg46_
          refine ES_no rfl hg46 rfl rfl rfl rfl ?_
          refine ES_no rfl hg46 rfl rfl rfl rfl ?_
          refine ES_no rfl hg46 rfl rfl rfl rfl ?_
          refine ES_no rfl hg46 rfl rfl rfl rfl ?_
          refine ES_s rfl rfl rfl (os_pick_f' rfl hg46 rfl) ?_
          exact ES_fin 5 rfl rfl (by rw [hg46]; rfl)
      refine EL_s rfl rfl rfl (os_move rfl) ?_
      refine EL_joint 4 56 (.bool (((decide ((-1) ≤ f.Vote)) && (decide (f.Vote < n))) && (decide (((f.Term : Nat) : Int) ≤ 4611686018427387904)))) ?_ ?_
      · skip
        refine ES_case ((decide ((-1) ≤ f.Vote)) && (decide (f.Vote < n))) (fun hg52 => ?_) (fun hg52 => ?_)
        · have hg52_ := hg52
          try simp only [Bool.or_eq_true, Bool.and_eq_true, Bool.or_eq_false_iff, Bool.and_eq_false_iff, decide_eq_true_eq, decide_eq_false_iff_not, Bool.not_eq_true', Bool.not_eq_false', Int.natCast_inj, Int.ofNat_lt, Int.ofNat_le] at hg52_
          refine ES_yes (j := 9) (b := true) rfl rfl rfl hg52 rfl rfl (os_field rfl fl25_0) ?_
          refine ES_yes (j := 9) (b := true) rfl rfl rfl hg52 rfl rfl (os_load_one rfl one22 (cells_own own_head rfl)) ?_
          refine ES_yes (j := 9) (b := true) rfl rfl rfl hg52 rfl rfl (os_leq rfl rfl) ?_
          refine ES_s rfl rfl rfl (os_pick_t' rfl hg52 rfl) ?_
          exact ES_fin 4 rfl rfl (by rw [hg52]; rfl)
        · have hg52_ := hg52
          try simp only [Bool.or_eq_true, Bool.and_eq_true, Bool.or_eq_false_iff, Bool.and_eq_false_iff, decide_eq_true_eq, decide_eq_false_iff_not, Bool.not_eq_true', Bool.not_eq_false', Int.natCast_inj, Int.ofNat_lt, Int.ofNat_le] at hg52_
          refine ES_no rfl hg52 rfl rfl rfl rfl ?_
          refine ES_no rfl hg52 rfl rfl rfl rfl ?_
          refine ES_no rfl hg52 rfl rfl rfl rfl ?_
          refine ES_s rfl rfl rfl (os_pick_f' rfl hg52 rfl) ?_
          exact ES_fin 4 rfl rfl (by rw [hg52]; rfl)
      refine EL_s rfl rfl rfl (os_move rfl) ?_
      refine EL_joint 4 61 (.bool ((((decide ((-1) ≤ f.Vote)) && (decide (f.Vote < n))) && (decide (((f.Term : Nat) : Int) ≤ 4611686018427387904))) && (decide (((f.Base : Nat) : Int) ≤ 4611686018427387904)))) ?_ ?_
      · skip
        refine ES_case (((decide ((-1) ≤ f.Vote)) && (decide (f.Vote < n))) && (decide (((f.Term : Nat) : Int) ≤ 4611686018427387904))) (fun hg57 => ?_) (fun hg57 => ?_)
        · have hg57_ := hg57
          try simp only [Bool.or_eq_true, Bool.and_eq_true, Bool.or_eq_false_iff, Bool.and_eq_false_iff, decide_eq_true_eq, decide_eq_false_iff_not, Bool.not_eq_true', Bool.not_eq_false', Int.natCast_inj, Int.ofNat_lt, Int.ofNat_le] at hg57_
          refine ES_yes (j := 14) (b := true) rfl rfl rfl hg57 rfl rfl (os_field rfl fl25_2) ?_
          refine ES_yes (j := 14) (b := true) rfl rfl rfl hg57 rfl rfl (os_load_one rfl one22 (cells_own own_head rfl)) ?_
          refine ES_yes (j := 14) (b := true) rfl rfl rfl hg57 rfl rfl (os_leq rfl rfl) ?_
          refine ES_s rfl rfl rfl (os_pick_t' rfl hg57 rfl) ?_
          exact ES_fin 4 rfl rfl (by rw [hg57]; rfl)
        · have hg57_ := hg57
          try simp only [Bool.or_eq_true, Bool.and_eq_true, Bool.or_eq_false_iff, Bool.and_eq_false_iff, decide_eq_true_eq, decide_eq_false_iff_not, Bool.not_eq_true', Bool.not_eq_false', Int.natCast_inj, Int.ofNat_lt, Int.ofNat_le] at hg57_
          refine ES_no rfl hg57 rfl rfl rfl rfl ?_
          refine ES_no rfl hg57 rfl rfl rfl rfl ?_
          refine ES_no rfl hg57 rfl rfl rfl rfl ?_
          refine ES_s rfl rfl rfl (os_pick_f' rfl hg57 rfl) ?_
          exact ES_fin 4 rfl rfl (by rw [hg57]; rfl)
      refine EL_s rfl rfl rfl (os_assign rfl) ?_
      refine EL_nil ?_
      refine EQ_then (EQ_wp ?_)
      refine EW_seq ?_
      -- region 7  law.go:285
      refine EW_region ?_
      refine EL_s rfl rfl rfl (os_field rfl fl25_3) ?_
      refine EL_s rfl rfl rfl (os_load_one rfl one22 (cells_own own_head rfl)) ?_
      refine EL_s rfl rfl rfl (os_assign rfl) ?_
      refine EL_nil ?_
      refine EQ_then (EQ_wp ?_)
      refine EW_seq ?_
      refine EW_seq ?_
      -- region 8  law.go:286
      refine EW_region ?_
      refine EL_s rfl rfl rfl (os_field rfl fl25_4) ?_
      refine EL_s rfl rfl rfl (os_load_one rfl one23 (cells_own own_head rfl)) ?_
      have hl66 := (show ts.h.n = ts.xs.length from FRow.len hts)
      refine EL_s rfl rfl rfl (os_len rfl sl23) ?_
      refine EL_s rfl rfl rfl (os_move rfl) ?_
      refine EL_nil ?_
      refine EQ_then (EQ_wp ?_)
      refine EW_block ?_
      refine EW_loop (σ := Nat × Bool × Nat) (fun ⟨k, ri, lo⟩ => [(0, (.int .i64 n)), (2, (notes.v)), (4, (.pointer (some ⟨b4, 0, none⟩))), (7, (.pointer none)), (8, (.int .i64 (newErr 0 n 3 y39.abs))), (9, (.bool ri)), (10, (.int .u64 ((lo : Nat) : Int))), (65, (ts.v)), (66, (.int .i64 ((ts.h.n : Nat) : Int))), (67, (.int .i64 ((k : Nat) : Int)))]) (fun ⟨k, ri, lo⟩ => I40) (fun ⟨k, ri, lo⟩ => [(b4, .cells #[(.int .u64 ((f.Term : Nat) : Int)), (.int .i64 f.Vote), (.int .u64 ((f.Base : Nat) : Int)), (.int .u64 ((f.BaseTerm : Nat) : Int)), (ts.v)] 25)] :: L0) (fun ⟨k, ri, lo⟩ => k ≤ ts.xs.length ∧ (ri && risingT (ts.xs.drop k) lo f.Term) = ((((((decide ((-1) ≤ f.Vote)) && (decide (f.Vote < n))) && (decide (((f.Term : Nat) : Int) ≤ 4611686018427387904))) && (decide (((f.Base : Nat) : Int) ≤ 4611686018427387904)))) && risingT ts.xs f.BaseTerm f.Term)) (fun ⟨k, ri, lo⟩ => ts.xs.length - k) (0, ((((decide ((-1) ≤ f.Vote)) && (decide (f.Vote < n))) && (decide (((f.Term : Nat) : Int) ≤ 4611686018427387904))) && (decide (((f.Base : Nat) : Int) ≤ 4611686018427387904))), f.BaseTerm) ⟨Nat.zero_le _, rfl⟩ ⟨rfl, rfl, rfl, rfl, rfl, rfl, rfl, rfl, rfl, rfl, trivial⟩ (fun w h => h) ?_
      rintro ⟨k, ri, lo⟩ ⟨hk, hri⟩
      refine EW_seq ?_
      -- region 9  law.go:286
      refine EW_region ?_
      refine EL_s rfl rfl rfl (os_lss rfl rfl) ?_
      refine EL_nil ?_
      refine EQ_then (EQ_wp ?_)
      refine EW_seq ?_
      refine EW_cond rfl (fun hc68 => ?_) (fun hc68 => ?_)
      · have hb68 := hc68
        try simp only [Bool.or_eq_true, Bool.and_eq_true, Bool.or_eq_false_iff, Bool.and_eq_false_iff, decide_eq_true_eq, decide_eq_false_iff_not, Bool.not_eq_true', Bool.not_eq_false', Int.natCast_inj, Int.ofNat_lt, Int.ofNat_le] at hc68
        refine EW_skip ?_
        refine EQ_then (EQ_wp ?_)
        refine EW_seq ?_
        refine EW_block ?_
        refine EW_seq ?_
        -- region 10  law.go:286
        refine EW_region ?_
        have hl69 := (show ts.h.n = ts.xs.length from FRow.len hts)
        obtain ⟨x69, hx69⟩ := get_some (l := ts.xs) (k := k) (by first | omega | (simp only [List.length_set, List.length_replicate, List.length_cons, List.length_nil]; omega) | (simp <;> omega))
        refine EL_s rfl rfl rfl (os_at (m := ts.h.n) (k) rfl rfl (by omega) sl23 (by omega) (by have hz_ := FRow.some hts (by show 0 < ts.h.n; omega); exact hz_)) ?_
        have hk70 : x69 ≤ 18446744073709551615 := FRow.okAt hts hx69
        refine EL_s rfl rfl rfl (os_load_one rfl one22 (FRow.whole (FRow.mono hts (hI39.trans hI40) (Incl.nil _)) hx69)) ?_
        refine EL_s rfl rfl rfl (os_assign rfl) ?_
        refine EL_nil ?_
        refine EQ_then (EQ_wp ?_)
        refine EW_seq ?_
        -- region 11  law.go:287
        refine EW_region ?_
        refine EL_s rfl rfl rfl (os_move rfl) ?_
        refine EL_s rfl rfl rfl (os_move rfl) ?_
        refine EL_joint 4 76 (.bool (ri && (decide (((lo : Nat) : Int) ≤ ((x69 : Nat) : Int))))) ?_ ?_
        · skip
          refine ES_case ri (fun hg72 => ?_) (fun hg72 => ?_)
          · have hg72_ := hg72
            try simp only [Bool.or_eq_true, Bool.and_eq_true, Bool.or_eq_false_iff, Bool.and_eq_false_iff, decide_eq_true_eq, decide_eq_false_iff_not, Bool.not_eq_true', Bool.not_eq_false', Int.natCast_inj, Int.ofNat_lt, Int.ofNat_le] at hg72_
            refine ES_yes (j := 1) (b := true) rfl rfl rfl hg72 rfl rfl (os_move rfl) ?_
            refine ES_yes (j := 1) (b := true) rfl rfl rfl hg72 rfl rfl (os_move rfl) ?_
            refine ES_yes (j := 1) (b := true) rfl rfl rfl hg72 rfl rfl (os_geq rfl rfl) ?_
            refine ES_s rfl rfl rfl (os_pick_t' rfl hg72 rfl) ?_
            exact ES_fin 4 rfl rfl (by rw [hg72]; rfl)
          · have hg72_ := hg72
            try simp only [Bool.or_eq_true, Bool.and_eq_true, Bool.or_eq_false_iff, Bool.and_eq_false_iff, decide_eq_true_eq, decide_eq_false_iff_not, Bool.not_eq_true', Bool.not_eq_false', Int.natCast_inj, Int.ofNat_lt, Int.ofNat_le] at hg72_
            refine ES_no rfl hg72 rfl rfl rfl rfl ?_
            refine ES_no rfl hg72 rfl rfl rfl rfl ?_
            refine ES_no rfl hg72 rfl rfl rfl rfl ?_
            refine ES_s rfl rfl rfl (os_pick_f' rfl hg72 rfl) ?_
            exact ES_fin 4 rfl rfl (by rw [hg72]; rfl)
        refine EL_s rfl rfl rfl (os_assign rfl) ?_
        refine EL_nil ?_
        refine EQ_then (EQ_wp ?_)
        -- region 12  law.go:288
        refine EW_region ?_
        refine EL_s rfl rfl rfl (os_move rfl) ?_
        refine EL_s rfl rfl rfl (os_assign rfl) ?_
        refine EL_nil ?_
        refine EQ_block_normal ?_
        refine EQ_then (EQ_wp ?_)
        -- region 13  law.go:286
        refine EW_region ?_
        refine EL_s rfl rfl rfl (os_addn (p := k) (q := 1) rfl rfl (IntWalk.i64_in _ (by omega))) ?_
        refine EL_s rfl rfl rfl (os_move rfl) ?_
        refine EL_nil ?_
        refine EQ_round ((k + 1), (ri && (decide (((lo : Nat) : Int) ≤ ((x69 : Nat) : Int)))), x69) ?_ ?_ ?_ ?_
        · exact ⟨by omega, by rw [← hri, drop_of_get hx69, risingT_step]; simp only [Int.ofNat_le]⟩
        · first | omega | (dsimp only; omega)
        · exact ⟨rfl, rfl, rfl, rfl, rfl, rfl, rfl, rfl, rfl, rfl, trivial⟩
        · exact fun w h => h.incl (Incl.cons (Incl.refl _) _)
      · have hb68 := hc68
        try simp only [Bool.or_eq_true, Bool.and_eq_true, Bool.or_eq_false_iff, Bool.and_eq_false_iff, decide_eq_true_eq, decide_eq_false_iff_not, Bool.not_eq_true', Bool.not_eq_false', Int.natCast_inj, Int.ofNat_lt, Int.ofNat_le] at hc68
        refine EW_exit ?_
        refine EQ_then_exit (EQ_then_exit (EQ_block_exit (?_)))
        refine EQ_then (EQ_wp ?_)
        refine EW_seq ?_
        -- region 14  law.go:290
        refine EW_region ?_
        refine EL_s rfl rfl rfl (os_move rfl) ?_
        refine EL_s rfl rfl rfl (os_move rfl) ?_
        refine EL_joint 5 85 (.bool (ri && (decide (((lo : Nat) : Int) ≤ ((f.Term : Nat) : Int))))) ?_ ?_
        · skip
          refine ES_case ri (fun hg80 => ?_) (fun hg80 => ?_)
          · have hg80_ := hg80
            try simp only [Bool.or_eq_true, Bool.and_eq_true, Bool.or_eq_false_iff, Bool.and_eq_false_iff, decide_eq_true_eq, decide_eq_false_iff_not, Bool.not_eq_true', Bool.not_eq_false', Int.natCast_inj, Int.ofNat_lt, Int.ofNat_le] at hg80_
            refine ES_yes (j := 1) (b := true) rfl rfl rfl hg80 rfl rfl (os_move rfl) ?_
            refine ES_yes (j := 1) (b := true) rfl rfl rfl hg80 rfl rfl (os_field rfl fl25_0) ?_
            refine ES_yes (j := 1) (b := true) rfl rfl rfl hg80 rfl rfl (os_load_one rfl one22 (cells_own own_head rfl)) ?_
            refine ES_yes (j := 1) (b := true) rfl rfl rfl hg80 rfl rfl (os_leq rfl rfl) ?_
            refine ES_s rfl rfl rfl (os_pick_t' rfl hg80 rfl) ?_
            exact ES_fin 5 rfl rfl (by rw [hg80]; rfl)
          · have hg80_ := hg80
            try simp only [Bool.or_eq_true, Bool.and_eq_true, Bool.or_eq_false_iff, Bool.and_eq_false_iff, decide_eq_true_eq, decide_eq_false_iff_not, Bool.not_eq_true', Bool.not_eq_false', Int.natCast_inj, Int.ofNat_lt, Int.ofNat_le] at hg80_
            refine ES_no rfl hg80 rfl rfl rfl rfl ?_
            refine ES_no rfl hg80 rfl rfl rfl rfl ?_
            refine ES_no rfl hg80 rfl rfl rfl rfl ?_
            refine ES_no rfl hg80 rfl rfl rfl rfl ?_
            refine ES_s rfl rfl rfl (os_pick_f' rfl hg80 rfl) ?_
            exact ES_fin 5 rfl rfl (by rw [hg80]; rfl)
        refine EL_s rfl rfl rfl (os_assign rfl) ?_
        refine EL_nil ?_
        refine EQ_then (EQ_wp ?_)
        refine EW_seq ?_
        refine EW_seq ?_
        -- region 15  law.go:291
        refine EW_region ?_
        refine EL_s rfl rfl rfl (os_move rfl) ?_
        refine EL_s rfl rfl rfl (os_lss rfl rfl) ?_
        refine EL_s rfl rfl rfl (os_move rfl) ?_
        refine EL_joint 3 91 (.bool ((decide (n < 1)) || (decide (5 < n)))) ?_ ?_
        · skip
          refine ES_case (decide (n < 1)) (fun hg88 => ?_) (fun hg88 => ?_)
          · have hg88_ := hg88
            try simp only [Bool.or_eq_true, Bool.and_eq_true, Bool.or_eq_false_iff, Bool.and_eq_false_iff, decide_eq_true_eq, decide_eq_false_iff_not, Bool.not_eq_true', Bool.not_eq_false', Int.natCast_inj, Int.ofNat_lt, Int.ofNat_le] at hg88_
            refine ES_no rfl hg88 rfl rfl rfl rfl ?_
            refine ES_no rfl hg88 rfl rfl rfl rfl ?_
            refine ES_s rfl rfl rfl (os_pick_t' rfl hg88 rfl) ?_
            exact ES_fin 3 rfl rfl (by rw [hg88]; rfl)
          · have hg88_ := hg88
            try simp only [Bool.or_eq_true, Bool.and_eq_true, Bool.or_eq_false_iff, Bool.and_eq_false_iff, decide_eq_true_eq, decide_eq_false_iff_not, Bool.not_eq_true', Bool.not_eq_false', Int.natCast_inj, Int.ofNat_lt, Int.ofNat_le] at hg88_
            refine ES_yes (j := 2) (b := false) rfl rfl rfl hg88 rfl rfl (os_move rfl) ?_
            refine ES_yes (j := 2) (b := false) rfl rfl rfl hg88 rfl rfl (os_gtr rfl rfl) ?_
            refine ES_s rfl rfl rfl (os_pick_f' rfl hg88 rfl) ?_
            exact ES_fin 3 rfl rfl (by rw [hg88]; rfl)
        refine EL_nil ?_
        refine EQ_then (EQ_wp ?_)
        refine EW_cond rfl (fun hc91 => ?_) (fun hc91 => ?_)
        · have hb91 := hc91
          try simp only [Bool.or_eq_true, Bool.and_eq_true, Bool.or_eq_false_iff, Bool.and_eq_false_iff, decide_eq_true_eq, decide_eq_false_iff_not, Bool.not_eq_true', Bool.not_eq_false', Int.natCast_inj, Int.ofNat_lt, Int.ofNat_le] at hc91
          have herr : newErr 0 n 3 y39.abs = 1 := if_pos (by omega)
          refine EW_seq ?_
          -- region 16  law.go:292
          refine EW_region ?_
          refine EL_s rfl rfl rfl (os_move rfl) ?_
          refine EL_s rfl rfl rfl (os_eql rfl rfl) ?_
          refine EL_s rfl rfl rfl (os_move rfl) ?_
          refine EL_joint 3 97 (.bool ((decide ((newErr 0 n 3 y39.abs) = 1)) || false)) ?_ ?_
          · skip
            refine ES_case (decide ((newErr 0 n 3 y39.abs) = 1)) (fun hg94 => ?_) (fun hg94 => ?_)
            · have hg94_ := hg94
              try simp only [Bool.or_eq_true, Bool.and_eq_true, Bool.or_eq_false_iff, Bool.and_eq_false_iff, decide_eq_true_eq, decide_eq_false_iff_not, Bool.not_eq_true', Bool.not_eq_false', Int.natCast_inj, Int.ofNat_lt, Int.ofNat_le] at hg94_
              refine ES_yes (j := 2) (b := true) rfl rfl rfl hg94 rfl rfl (os_move rfl) ?_
              refine ES_yes (j := 2) (b := true) rfl rfl rfl hg94 rfl rfl (os_eql_pn rfl rfl unnode) ?_
              refine ES_s rfl rfl rfl (os_pick_t' rfl hg94 rfl) ?_
              exact ES_fin 3 rfl rfl (by rw [hg94]; rfl)
            · have hg94_ := hg94
              try simp only [Bool.or_eq_true, Bool.and_eq_true, Bool.or_eq_false_iff, Bool.and_eq_false_iff, decide_eq_true_eq, decide_eq_false_iff_not, Bool.not_eq_true', Bool.not_eq_false', Int.natCast_inj, Int.ofNat_lt, Int.ofNat_le] at hg94_
              refine ES_no rfl hg94 rfl rfl rfl rfl ?_
              refine ES_no rfl hg94 rfl rfl rfl rfl ?_
              refine ES_s rfl rfl rfl (os_pick_f' rfl hg94 rfl) ?_
              exact ES_fin 3 rfl rfl (by rw [hg94]; rfl)
          refine EL_s rfl rfl rfl (os_assign rfl) ?_
          refine EL_nil ?_
          refine EQ_then (EQ_wp ?_)
          refine EW_ret ?_
          refine EQ_then_ret (?_)
          exact pc_ret1 Try.results3 (rv_tmp rfl) (hI39.trans hI40) ((Incl.refl _).skip _) (by rw [herr]; rfl) (.inl rfl)
        · have hb91 := hc91
          try simp only [Bool.or_eq_true, Bool.and_eq_true, Bool.or_eq_false_iff, Bool.and_eq_false_iff, decide_eq_true_eq, decide_eq_false_iff_not, Bool.not_eq_true', Bool.not_eq_false', Int.natCast_inj, Int.ofNat_lt, Int.ofNat_le] at hc91
          refine EW_skip ?_
          refine EQ_then (EQ_wp ?_)
          refine EW_seq ?_
          refine EW_seq ?_
          -- region 17  law.go:294
          refine EW_region ?_
          refine EL_s rfl rfl rfl (os_move rfl) ?_
          refine EL_s rfl rfl rfl (os_not rfl) ?_
          refine EL_nil ?_
          refine EQ_then (EQ_wp ?_)
          refine EW_cond rfl (fun hc99 => ?_) (fun hc99 => ?_)
          · have hb99 := hc99
            try simp only [Bool.or_eq_true, Bool.and_eq_true, Bool.or_eq_false_iff, Bool.and_eq_false_iff, decide_eq_true_eq, decide_eq_false_iff_not, Bool.not_eq_true', Bool.not_eq_false', Int.natCast_inj, Int.ofNat_lt, Int.ofNat_le] at hc99
            have herr : newErr 0 n 3 y39.abs = 3 := new_three (by omega) (by omega) hnew
            refine EW_seq ?_
            -- region 18  law.go:295
            refine EW_region ?_
            refine EL_s rfl rfl rfl (os_move rfl) ?_
            refine EL_s rfl rfl rfl (os_eql rfl rfl) ?_
            refine EL_s rfl rfl rfl (os_move rfl) ?_
            refine EL_joint 3 105 (.bool ((decide ((newErr 0 n 3 y39.abs) = 3)) || false)) ?_ ?_
            · skip
              refine ES_case (decide ((newErr 0 n 3 y39.abs) = 3)) (fun hg102 => ?_) (fun hg102 => ?_)
              · have hg102_ := hg102
                try simp only [Bool.or_eq_true, Bool.and_eq_true, Bool.or_eq_false_iff, Bool.and_eq_false_iff, decide_eq_true_eq, decide_eq_false_iff_not, Bool.not_eq_true', Bool.not_eq_false', Int.natCast_inj, Int.ofNat_lt, Int.ofNat_le] at hg102_
                refine ES_yes (j := 2) (b := true) rfl rfl rfl hg102 rfl rfl (os_move rfl) ?_
                refine ES_yes (j := 2) (b := true) rfl rfl rfl hg102 rfl rfl (os_eql_pn rfl rfl unnode) ?_
                refine ES_s rfl rfl rfl (os_pick_t' rfl hg102 rfl) ?_
                exact ES_fin 3 rfl rfl (by rw [hg102]; rfl)
              · have hg102_ := hg102
                try simp only [Bool.or_eq_true, Bool.and_eq_true, Bool.or_eq_false_iff, Bool.and_eq_false_iff, decide_eq_true_eq, decide_eq_false_iff_not, Bool.not_eq_true', Bool.not_eq_false', Int.natCast_inj, Int.ofNat_lt, Int.ofNat_le] at hg102_
                refine ES_no rfl hg102 rfl rfl rfl rfl ?_
                refine ES_no rfl hg102 rfl rfl rfl rfl ?_
                refine ES_s rfl rfl rfl (os_pick_f' rfl hg102 rfl) ?_
                exact ES_fin 3 rfl rfl (by rw [hg102]; rfl)
            refine EL_s rfl rfl rfl (os_assign rfl) ?_
            refine EL_nil ?_
            refine EQ_then (EQ_wp ?_)
            refine EW_ret ?_
            refine EQ_then_ret (?_)
            exact pc_ret1 Try.results3 (rv_tmp rfl) (hI39.trans hI40) ((Incl.refl _).skip _) (by rw [herr]; rfl) (.inl rfl)
          · have hb99 := hc99
            try simp only [Bool.or_eq_true, Bool.and_eq_true, Bool.or_eq_false_iff, Bool.and_eq_false_iff, decide_eq_true_eq, decide_eq_false_iff_not, Bool.not_eq_true', Bool.not_eq_false', Int.natCast_inj, Int.ofNat_lt, Int.ofNat_le] at hc99
            exfalso
            rw [List.drop_eq_nil_of_le (by omega)] at hri
            have hri2 : (ri && decide (lo ≤ f.Term)) = true := by simp; omega
            rw [show risingT [] lo f.Term = decide (lo ≤ f.Term) from rfl, hri2] at hri
            have hri3 := hri.symm
            simp only [Bool.and_eq_true, decide_eq_true_eq] at hri3
            obtain ⟨⟨⟨⟨a1, a2⟩, a3⟩, a4⟩, a5⟩ := hri3
            rw [← laid_terms (fun i => [UInt8.ofNat i]) ts.xs, ← risingP_T] at a5
            apply hnew
            rw [hay39]
            refine (if_neg (by omega)).trans (if_neg ?_)
            simp only [not_or, Bool.not_eq_false]
            exact ⟨by show ¬ f.Vote < -1; omega, by show ¬ n ≤ f.Vote; omega, a5, by show ¬ 4611686018427387904 < f.Base; omega, by show ¬ 4611686018427387904 < f.Term; omega⟩


end Go.Proofs.Ytlhibbjnhdcffaa
