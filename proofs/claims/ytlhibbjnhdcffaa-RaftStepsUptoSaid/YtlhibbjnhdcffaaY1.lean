/- Proved here: the part Y1 of the proof that the law of this seat returns true for every input; no condition. -/
import Derived.Test.YtlhibbjnhdcffaaX1
import Derived.Test.YtlhibbjnhdcffaaZ1
set_option maxRecDepth 20000
set_option linter.unusedVariables false
set_option linter.unusedSimpArgs false
namespace Go.Proofs.Ytlhibbjnhdcffaa
open Go Go.Gl

set_option maxHeartbeats 4000000 in
theorem l_steps {I : Gh} {L : List Seg} (n : Int) {f : Form} (hf : Form.Ok I f) {notes : Sl Note} (hnotes : FRow rNote I L notes) (hp0 : newErr 0 n 3 (stateOf (cutF f.abs)) = 0) (hp1 : ∀ x ∈ notes.xs, x.abs.Terms.length ≤ 1048576) : PC Try.prog 3 #[.int .i64 n, .agg (f.cells).toArray, notes.v] I L fun K v => v = .bool (true) := by
  refine PC.of (n := 364) Try.func3 rfl Try.ntmps3 rfl fun I0 L0 hI0 hL0 => ?_
  have hf := hf.mono hI0
  have hnotes := FRow.mono hnotes hI0 hL0
  have hl_notes := FRow.len hnotes
  have hf_notes := hnotes.few
  simp only [rNote] at hf_notes
  have hfl := FRow.len hf.Terms
  have hfw0 := hf.Terms.few
  have hft := hf.Term
  have hfv := hf.Vote
  refine EW_seq ?_
  -- region 0  law.go:276
  refine EW_region ?_
  refine EL_a rfl rfl rfl (oa_box rfl) ?_
  intro b4
  refine EL_s rfl rfl rfl (os_assign rfl) ?_
  refine EL_nil ?_
  refine EQ_then (EQ_wp ?_)
  refine EW_seq ?_
  refine EW_seq ?_
  -- region 1  law.go:277
  refine EW_region ?_
  refine EL_s rfl rfl rfl (os_call (vs := []) body11 rfl l_awake) ?_
  refine EL_s rfl rfl rfl (os_not rfl) ?_
  refine EL_nil ?_
  refine EQ_then (EQ_wp ?_)
  refine EW_cond rfl (fun hc27 => ?_) (fun hc27 => ?_)
  · have hb27 := hc27
    try simp only [Bool.or_eq_true, Bool.and_eq_true, Bool.or_eq_false_iff, Bool.and_eq_false_iff, decide_eq_true_eq, decide_eq_false_iff_not, Bool.not_eq_true', Bool.not_eq_false', Int.natCast_inj, Int.ofNat_lt, Int.ofNat_le] at hc27
    cases hc27
  · have hb27 := hc27
    try simp only [Bool.or_eq_true, Bool.and_eq_true, Bool.or_eq_false_iff, Bool.and_eq_false_iff, decide_eq_true_eq, decide_eq_false_iff_not, Bool.not_eq_true', Bool.not_eq_false', Int.natCast_inj, Int.ofNat_lt, Int.ofNat_le] at hc27
    refine EW_skip ?_
    refine EQ_then (EQ_wp ?_)
    refine EW_seq_cut (σ := (Sl Nat)) (fun ts => [(0, (.int .i64 n)), (2, (notes.v)), (4, (.pointer (some ⟨b4, 0, none⟩)))]) (fun ts => I0) (fun ts => [(b4, .cells #[(.int .u64 ((f.Term : Nat) : Int)), (.int .i64 f.Vote), (.int .u64 ((f.Base : Nat) : Int)), (.int .u64 ((f.BaseTerm : Nat) : Int)), (ts.v)] 25)] :: L0) (fun ts => FRow rU64 I0 [] ts ∧ ts.xs = f.Terms.xs.take 30) ?_ ?_
    · skip
      refine EW_seq ?_
      -- region 3  law.go:280
      refine EW_region ?_
      refine EL_s rfl rfl rfl (os_field rfl fl25_4) ?_
      refine EL_s rfl rfl rfl (os_load_one rfl one23 (cells_own own_head rfl)) ?_
      have hl30 := (show f.Terms.h.n = f.Terms.xs.length from FRow.len hf.Terms)
      refine EL_s rfl rfl rfl (os_len rfl sl23) ?_
      refine EL_s rfl rfl rfl (os_gtr rfl rfl) ?_
      refine EL_nil ?_
      refine EQ_then (EQ_wp ?_)
      refine EW_cond rfl (fun hc31 => ?_) (fun hc31 => ?_)
      · have hb31 := hc31
        try simp only [Bool.or_eq_true, Bool.and_eq_true, Bool.or_eq_false_iff, Bool.and_eq_false_iff, decide_eq_true_eq, decide_eq_false_iff_not, Bool.not_eq_true', Bool.not_eq_false', Int.natCast_inj, Int.ofNat_lt, Int.ofNat_le] at hc31
        -- region 4  law.go:281
        refine EW_region ?_
        refine EL_s rfl rfl rfl (os_field rfl fl25_4) ?_
        refine EL_s rfl rfl rfl (os_load_one rfl one23 (cells_own own_head rfl)) ?_
        have hl34 := (show f.Terms.h.n = f.Terms.xs.length from FRow.len hf.Terms)
        have hn34 := (show f.Terms.h.n ≤ f.Terms.h.c from FRow.nle hf.Terms)
        have hs34 := (FRow.subS (l := 0) (u := 30) 1 rfl hf.Terms (by omega) (by omega))
        refine EL_s rfl rfl rfl (os_sub_slice (k := .i64) (k' := .i64) 0 30 rfl sl23 rfl ⟨_, rfl, by omega⟩ (by omega) (by omega)) ?_
        refine EL_s rfl rfl rfl (os_field rfl fl25_4) ?_
        refine EL_u rfl rfl (ox_store rfl rfl sz23 rfl (by rfl) (.head .head)) ?_
        refine EL_nil ?_
        refine EQ_cut ((subSl 1 f.Terms 0 30)) ?_ ?_ ?_
        · exact ⟨(FRow.mono hs34 (.refl _) (Incl.nil _)), by show List.extract _ 0 30 = _; rw [List.extract_eq_take_drop]; simp⟩
        · exact ⟨rfl, rfl, rfl, trivial⟩
        · exact fun w h => h.incl (Incl.cons (Incl.refl _) _)
      · have hb31 := hc31
        try simp only [Bool.or_eq_true, Bool.and_eq_true, Bool.or_eq_false_iff, Bool.and_eq_false_iff, decide_eq_true_eq, decide_eq_false_iff_not, Bool.not_eq_true', Bool.not_eq_false', Int.natCast_inj, Int.ofNat_lt, Int.ofNat_le] at hc31
        refine EW_skip ?_
        refine EQ_cut (f.Terms) ?_ ?_ ?_
        · exact ⟨(FRow.mono hf.Terms (.refl _) (Incl.nil _)), by rw [List.take_of_length_le (by omega)]⟩
        · exact ⟨rfl, rfl, rfl, trivial⟩
        · exact fun w h => h.incl (Incl.cons (Incl.refl _) _)
    · rintro ts ⟨hts, hts2⟩
      have htl := FRow.len hts
      have hts3 : ts.xs.length ≤ 30 := by rw [hts2, List.length_take]; omega
      refine EW_seq ?_
      -- region 5  law.go:283
      refine EW_region ?_
      refine EL_s rfl rfl rfl (os_move rfl) ?_
      refine EL_s rfl rfl rfl (os_load_agg (cs := [_, _, _, _, _]) rfl agg25 (cells_own own_head rfl)) ?_
      have hr_a39_0 : Form.Ok I0 (Form.mk f.Term f.Vote f.Base f.BaseTerm ts) := ⟨hf.Term, hf.Vote, hf.Base, hf.BaseTerm, (FRow.mono hts (.refl _) (.refl _))⟩
      refine EL_g rfl rfl rfl (og_call (vs := [.agg ((Form.mk f.Term f.Vote f.Base f.BaseTerm ts).cells).toArray]) body13 rfl (l_state hr_a39_0 (by show ts.xs.length ≤ 1048576; omega))) ?_
      intro I39 v39 hI39 hv39
      obtain ⟨y39, rfl, hy39, hay39⟩ := hv39
      have hnew : newErr 0 n 3 y39.abs = 0 := by rw [hay39]; show newErr 0 n 3 (stateOf ⟨f.Term, f.Vote, f.Base, f.BaseTerm, ts.xs⟩) = 0; rw [hts2]; exact hp0
      refine EL_x rfl rfl (ox_callN (vs := [(.int .i64 0), (.int .i64 n), (.int .i64 3), .agg (y39.cells).toArray]) body12 rfl (Ss := []) (List.Perm.refl _) (n_New 0 n 3 hy39 hnew)) ?_
      rintro I40 L40 v40 hI40 ⟨Ss40, rfl, ⟨b40, ⟨x40, S40a, S40b, S40c, S40d, hx40, rfl, ho40a, ho40b, ho40c, ho40d⟩, rfl⟩⟩
      refine EL_perm (nm_5 _ _ _ _ _ _) ?_
      have hg0 : NodeP.Good n 30 x40.abs := by rw [hx40]; exact NodeP.good_new hnew (by rw [hay39]; show (laid _ ts.xs).length ≤ 30; rw [laid_length]; exact hts3)
      have hfw : x40.abs.Few := hg0.few (by omega)
      have hfb : f.Base ≤ 4611686018427387904 := by have hz := (new_ok hnew).2.2.2.2.1; rw [hay39] at hz; exact hz
      refine EL_s rfl rfl rfl (os_move rfl) ?_
      refine EL_s rfl rfl rfl (os_extract rfl rfl) ?_
      refine EL_s rfl rfl rfl (os_extract rfl rfl) ?_
      refine EL_s rfl rfl rfl (os_assign rfl) ?_
      refine EL_s rfl rfl rfl (os_assign rfl) ?_
      refine EL_nil ?_
      refine EQ_then (EQ_wp ?_)
      refine EW_seq ?_
      -- region 6  law.go:284
      refine EW_region ?_
      refine EL_s rfl rfl rfl (os_field rfl fl25_1) ?_
      refine EL_s rfl rfl rfl (os_load_one rfl one3 (cells_own (own_tail (own_tail (own_tail (own_tail (own_tail own_head))))) rfl)) ?_
      refine EL_s rfl rfl rfl (os_geq rfl rfl) ?_
      refine EL_s rfl rfl rfl (os_move rfl) ?_
      refine EL_joint 5 51 (.bool ((decide ((-1) ≤ f.Vote)) && (decide (f.Vote < n)))) ?_ ?_
      · skip
        refine ES_case (decide ((-1) ≤ f.Vote)) (fun hg46 => ?_) (fun hg46 => ?_)
        · have hg46_ := hg46
          try simp only [Bool.or_eq_true, Bool.and_eq_true, Bool.or_eq_false_iff, Bool.and_eq_false_iff, decide_eq_true_eq, decide_eq_false_iff_not, Bool.not_eq_true', Bool.not_eq_false', Int.natCast_inj, Int.ofNat_lt, Int.ofNat_le] at hg46_
          refine ES_yes (j := 3) (b := true) rfl rfl rfl hg46 rfl rfl (os_field rfl fl25_1) ?_
          refine ES_yes (j := 3) (b := true) rfl rfl rfl hg46 rfl rfl (os_load_one rfl one3 (cells_own (own_tail (own_tail (own_tail (own_tail (own_tail own_head))))) rfl)) ?_
          refine ES_yes (j := 3) (b := true) rfl rfl rfl hg46 rfl rfl (os_move rfl) ?_
          refine ES_yes (j := 3) (b := true) rfl rfl rfl hg46 rfl rfl (os_lss rfl rfl) ?_
          refine ES_s rfl rfl rfl (os_pick_t' rfl hg46 rfl) ?_
          exact ES_fin 5 rfl rfl (by rw [hg46]; rfl)
        · have hg46_ := hg46
          try simp only [Bool.or_eq_true, Bool.and_eq_true, Bool.or_eq_false_iff, Bool.and_eq_false_iff, decide_eq_true_eq, decide_eq_false_iff_not, Bool.not_eq_true', Bool.not_eq_false', Int.natCast_inj, Int.ofNat_lt, Int.ofNat_le] at hg46_
          refine ES_no rfl hg46 rfl rfl rfl rfl ?_
          refine ES_no rfl hg46 rfl rfl rfl rfl ?_
          refine ES_no rfl hg46 rfl rfl rfl rfl ?_
          refine ES_no rfl hg46 rfl rfl rfl rfl ?_
          refine ES_s rfl rfl rfl (os_pick_f' rfl hg46 rfl) ?_
          exact ES_fin 5 rfl rfl (by rw [hg46]; rfl)
      refine EL_s rfl rfl rfl (os_move rfl) ?_
      refine EL_joint 4 56 (.bool (((decide ((-1) ≤ f.Vote)) && (decide (f.Vote < n))) && (decide (((f.Term : Nat) : Int) ≤ 4611686018427387904)))) ?_ ?_
      · skip
        refine ES_case ((decide ((-1) ≤ f.Vote)) && (decide (f.Vote < n))) (fun hg52 => ?_) (fun hg52 => ?_)
        · have hg52_ := hg52
          try simp only [Bool.or_eq_true, Bool.and_eq_true, Bool.or_eq_false_iff, Bool.and_eq_false_iff, decide_eq_true_eq, decide_eq_false_iff_not, Bool.not_eq_true', Bool.not_eq_false', Int.natCast_inj, Int.ofNat_lt, Int.ofNat_le] at hg52_
          refine ES_yes (j := 9) (b := true) rfl rfl rfl hg52 rfl rfl (os_field rfl fl25_0) ?_
          refine ES_yes (j := 9) (b := true) rfl rfl rfl hg52 rfl rfl (os_load_one rfl one22 (cells_own (own_tail (own_tail (own_tail (own_tail (own_tail own_head))))) rfl)) ?_
          refine ES_yes (j := 9) (b := true) rfl rfl rfl hg52 rfl rfl (os_leq rfl rfl) ?_
          refine ES_s rfl rfl rfl (os_pick_t' rfl hg52 rfl) ?_
          exact ES_fin 4 rfl rfl (by rw [hg52]; rfl)
        · have hg52_ := hg52
          try simp only [Bool.or_eq_true, Bool.and_eq_true, Bool.or_eq_false_iff, Bool.and_eq_false_iff, decide_eq_true_eq, decide_eq_false_iff_not, Bool.not_eq_true', Bool.not_eq_false', Int.natCast_inj, Int.ofNat_lt, Int.ofNat_le] at hg52_
          refine ES_no rfl hg52 rfl rfl rfl rfl ?_
          refine ES_no rfl hg52 rfl rfl rfl rfl ?_
          refine ES_no rfl hg52 rfl rfl rfl rfl ?_
          refine ES_s rfl rfl rfl (os_pick_f' rfl hg52 rfl) ?_
          exact ES_fin 4 rfl rfl (by rw [hg52]; rfl)
      refine EL_s rfl rfl rfl (os_move rfl) ?_
      refine EL_joint 4 61 (.bool ((((decide ((-1) ≤ f.Vote)) && (decide (f.Vote < n))) && (decide (((f.Term : Nat) : Int) ≤ 4611686018427387904))) && (decide (((f.Base : Nat) : Int) ≤ 4611686018427387904)))) ?_ ?_
      · skip
        refine ES_case (((decide ((-1) ≤ f.Vote)) && (decide (f.Vote < n))) && (decide (((f.Term : Nat) : Int) ≤ 4611686018427387904))) (fun hg57 => ?_) (fun hg57 => ?_)
        · have hg57_ := hg57
          try simp only [Bool.or_eq_true, Bool.and_eq_true, Bool.or_eq_false_iff, Bool.and_eq_false_iff, decide_eq_true_eq, decide_eq_false_iff_not, Bool.not_eq_true', Bool.not_eq_false', Int.natCast_inj, Int.ofNat_lt, Int.ofNat_le] at hg57_
          refine ES_yes (j := 14) (b := true) rfl rfl rfl hg57 rfl rfl (os_field rfl fl25_2) ?_
          refine ES_yes (j := 14) (b := true) rfl rfl rfl hg57 rfl rfl (os_load_one rfl one22 (cells_own (own_tail (own_tail (own_tail (own_tail (own_tail own_head))))) rfl)) ?_
          refine ES_yes (j := 14) (b := true) rfl rfl rfl hg57 rfl rfl (os_leq rfl rfl) ?_
          refine ES_s rfl rfl rfl (os_pick_t' rfl hg57 rfl) ?_
          exact ES_fin 4 rfl rfl (by rw [hg57]; rfl)
        · have hg57_ := hg57
          try simp only [Bool.or_eq_true, Bool.and_eq_true, Bool.or_eq_false_iff, Bool.and_eq_false_iff, decide_eq_true_eq, decide_eq_false_iff_not, Bool.not_eq_true', Bool.not_eq_false', Int.natCast_inj, Int.ofNat_lt, Int.ofNat_le] at hg57_
          refine ES_no rfl hg57 rfl rfl rfl rfl ?_
          refine ES_no rfl hg57 rfl rfl rfl rfl ?_
          refine ES_no rfl hg57 rfl rfl rfl rfl ?_
          refine ES_s rfl rfl rfl (os_pick_f' rfl hg57 rfl) ?_
          exact ES_fin 4 rfl rfl (by rw [hg57]; rfl)
      refine EL_s rfl rfl rfl (os_assign rfl) ?_
      refine EL_nil ?_
      refine EQ_then (EQ_wp ?_)
      refine EW_seq ?_
      -- region 7  law.go:285
      refine EW_region ?_
      refine EL_s rfl rfl rfl (os_field rfl fl25_3) ?_
      refine EL_s rfl rfl rfl (os_load_one rfl one22 (cells_own (own_tail (own_tail (own_tail (own_tail (own_tail own_head))))) rfl)) ?_
      refine EL_s rfl rfl rfl (os_assign rfl) ?_
      refine EL_nil ?_
      refine EQ_then (EQ_wp ?_)
      refine EW_seq ?_
      refine EW_seq ?_
      -- region 8  law.go:286
      refine EW_region ?_
      refine EL_s rfl rfl rfl (os_field rfl fl25_4) ?_
      refine EL_s rfl rfl rfl (os_load_one rfl one23 (cells_own (own_tail (own_tail (own_tail (own_tail (own_tail own_head))))) rfl)) ?_
      have hl66 := (show ts.h.n = ts.xs.length from FRow.len hts)
      refine EL_s rfl rfl rfl (os_len rfl sl23) ?_
      refine EL_s rfl rfl rfl (os_move rfl) ?_
      refine EL_nil ?_
      refine EQ_then (EQ_wp ?_)
      refine EW_block ?_
      refine EW_loop (σ := Nat × Bool × Nat) (fun ⟨k, ri, lo⟩ => [(0, (.int .i64 n)), (2, (notes.v)), (4, (.pointer (some ⟨b4, 0, none⟩))), (7, (.pointer (some ⟨b40, 0, none⟩))), (8, (.int .i64 0)), (9, (.bool ri)), (10, (.int .u64 ((lo : Nat) : Int))), (65, (ts.v)), (66, (.int .i64 ((ts.h.n : Nat) : Int))), (67, (.int .i64 ((k : Nat) : Int)))]) (fun ⟨k, ri, lo⟩ => I40) (fun ⟨k, ri, lo⟩ => [(b40, .cells (x40.cells).toArray 47)] :: S40a :: S40b :: S40c :: S40d :: [(b4, .cells #[(.int .u64 ((f.Term : Nat) : Int)), (.int .i64 f.Vote), (.int .u64 ((f.Base : Nat) : Int)), (.int .u64 ((f.BaseTerm : Nat) : Int)), (ts.v)] 25)] :: L0) (fun ⟨k, ri, lo⟩ => k ≤ ts.xs.length ∧ (ri && risingT (ts.xs.drop k) lo f.Term) = ((((((decide ((-1) ≤ f.Vote)) && (decide (f.Vote < n))) && (decide (((f.Term : Nat) : Int) ≤ 4611686018427387904))) && (decide (((f.Base : Nat) : Int) ≤ 4611686018427387904)))) && risingT ts.xs f.BaseTerm f.Term)) (fun ⟨k, ri, lo⟩ => ts.xs.length - k) (0, ((((decide ((-1) ≤ f.Vote)) && (decide (f.Vote < n))) && (decide (((f.Term : Nat) : Int) ≤ 4611686018427387904))) && (decide (((f.Base : Nat) : Int) ≤ 4611686018427387904))), f.BaseTerm) ⟨Nat.zero_le _, rfl⟩ ⟨rfl, rfl, rfl, rfl, rfl, rfl, rfl, rfl, rfl, rfl, trivial⟩ (fun w h => h) ?_
      rintro ⟨k, ri, lo⟩ ⟨hk, hri⟩
      refine EW_seq ?_
      -- region 9  law.go:286
      refine EW_region ?_
      refine EL_s rfl rfl rfl (os_lss rfl rfl) ?_
      refine EL_nil ?_
      refine EQ_then (EQ_wp ?_)
      refine EW_seq ?_
      refine EW_cond rfl (fun hc68 => ?_) (fun hc68 => ?_)
      · have hb68 := hc68
        try simp only [Bool.or_eq_true, Bool.and_eq_true, Bool.or_eq_false_iff, Bool.and_eq_false_iff, decide_eq_true_eq, decide_eq_false_iff_not, Bool.not_eq_true', Bool.not_eq_false', Int.natCast_inj, Int.ofNat_lt, Int.ofNat_le] at hc68
        refine EW_skip ?_
        refine EQ_then (EQ_wp ?_)
        refine EW_seq ?_
        refine EW_block ?_
        refine EW_seq ?_
        -- region 10  law.go:286
        refine EW_region ?_
        have hl69 := (show ts.h.n = ts.xs.length from FRow.len hts)
        obtain ⟨x69, hx69⟩ := get_some (l := ts.xs) (k := k) (by first | omega | (simp only [List.length_set, List.length_replicate, List.length_cons, List.length_nil]; omega) | (simp <;> omega))
        refine EL_s rfl rfl rfl (os_at (m := ts.h.n) (k) rfl rfl (by omega) sl23 (by omega) (by have hz_ := FRow.some hts (by show 0 < ts.h.n; omega); exact hz_)) ?_
        have hk70 : x69 ≤ 18446744073709551615 := FRow.okAt hts hx69
        refine EL_s rfl rfl rfl (os_load_one rfl one22 (FRow.whole (FRow.mono hts (hI39.trans hI40) (Incl.nil _)) hx69)) ?_
        refine EL_s rfl rfl rfl (os_assign rfl) ?_
        refine EL_nil ?_
        refine EQ_then (EQ_wp ?_)
        refine EW_seq ?_
        -- region 11  law.go:287
        refine EW_region ?_
        refine EL_s rfl rfl rfl (os_move rfl) ?_
        refine EL_s rfl rfl rfl (os_move rfl) ?_
        refine EL_joint 4 76 (.bool (ri && (decide (((lo : Nat) : Int) ≤ ((x69 : Nat) : Int))))) ?_ ?_
        · skip
          refine ES_case ri (fun hg72 => ?_) (fun hg72 => ?_)
          · have hg72_ := hg72
            try simp only [Bool.or_eq_true, Bool.and_eq_true, Bool.or_eq_false_iff, Bool.and_eq_false_iff, decide_eq_true_eq, decide_eq_false_iff_not, Bool.not_eq_true', Bool.not_eq_false', Int.natCast_inj, Int.ofNat_lt, Int.ofNat_le] at hg72_
            refine ES_yes (j := 1) (b := true) rfl rfl rfl hg72 rfl rfl (os_move rfl) ?_
            refine ES_yes (j := 1) (b := true) rfl rfl rfl hg72 rfl rfl (os_move rfl) ?_
            refine ES_yes (j := 1) (b := true) rfl rfl rfl hg72 rfl rfl (os_geq rfl rfl) ?_
            refine ES_s rfl rfl rfl (os_pick_t' rfl hg72 rfl) ?_
            exact ES_fin 4 rfl rfl (by rw [hg72]; rfl)
          · have hg72_ := hg72
            try simp only [Bool.or_eq_true, Bool.and_eq_true, Bool.or_eq_false_iff, Bool.and_eq_false_iff, decide_eq_true_eq, decide_eq_false_iff_not, Bool.not_eq_true', Bool.not_eq_false', Int.natCast_inj, Int.ofNat_lt, Int.ofNat_le] at hg72_
            refine ES_no rfl hg72 rfl rfl rfl rfl ?_
            refine ES_no rfl hg72 rfl rfl rfl rfl ?_
            refine ES_no rfl hg72 rfl rfl rfl rfl ?_
            refine ES_s rfl rfl rfl (os_pick_f' rfl hg72 rfl) ?_
            exact ES_fin 4 rfl rfl (by rw [hg72]; rfl)
        refine EL_s rfl rfl rfl (os_assign rfl) ?_
        refine EL_nil ?_
        refine EQ_then (EQ_wp ?_)
        -- region 12  law.go:288
        refine EW_region ?_
        refine EL_s rfl rfl rfl (os_move rfl) ?_
        refine EL_s rfl rfl rfl (os_assign rfl) ?_
        refine EL_nil ?_
        refine EQ_block_normal ?_
        refine EQ_then (EQ_wp ?_)
        -- region 13  law.go:286
        refine EW_region ?_
        refine EL_s rfl rfl rfl (os_addn (p := k) (q := 1) rfl rfl (IntWalk.i64_in _ (by omega))) ?_
        refine EL_s rfl rfl rfl (os_move rfl) ?_
        refine EL_nil ?_
        refine EQ_round ((k + 1), (ri && (decide (((lo : Nat) : Int) ≤ ((x69 : Nat) : Int)))), x69) ?_ ?_ ?_ ?_
        · exact ⟨by omega, by rw [← hri, drop_of_get hx69, risingT_step]; simp only [Int.ofNat_le]⟩
        · first | omega | (dsimp only; omega)
        · exact ⟨rfl, rfl, rfl, rfl, rfl, rfl, rfl, rfl, rfl, rfl, trivial⟩
        · exact fun w h => h.incl (Incl.cons (Incl.cons (Incl.cons (Incl.cons (Incl.cons (Incl.cons (Incl.refl _) _) _) _) _) _) _)
      · have hb68 := hc68
        try simp only [Bool.or_eq_true, Bool.and_eq_true, Bool.or_eq_false_iff, Bool.and_eq_false_iff, decide_eq_true_eq, decide_eq_false_iff_not, Bool.not_eq_true', Bool.not_eq_false', Int.natCast_inj, Int.ofNat_lt, Int.ofNat_le] at hc68
        refine EW_exit ?_
        refine EQ_then_exit (EQ_then_exit (EQ_block_exit (?_)))
        refine EQ_then (EQ_wp ?_)
        refine EW_seq ?_
        -- region 14  law.go:290
        refine EW_region ?_
        refine EL_s rfl rfl rfl (os_move rfl) ?_
        refine EL_s rfl rfl rfl (os_move rfl) ?_
        refine EL_joint 5 85 (.bool (ri && (decide (((lo : Nat) : Int) ≤ ((f.Term : Nat) : Int))))) ?_ ?_
        · skip
          refine ES_case ri (fun hg80 => ?_) (fun hg80 => ?_)
          · have hg80_ := hg80
            try simp only [Bool.or_eq_true, Bool.and_eq_true, Bool.or_eq_false_iff, Bool.and_eq_false_iff, decide_eq_true_eq, decide_eq_false_iff_not, Bool.not_eq_true', Bool.not_eq_false', Int.natCast_inj, Int.ofNat_lt, Int.ofNat_le] at hg80_
            refine ES_yes (j := 1) (b := true) rfl rfl rfl hg80 rfl rfl (os_move rfl) ?_
            refine ES_yes (j := 1) (b := true) rfl rfl rfl hg80 rfl rfl (os_field rfl fl25_0) ?_
            refine ES_yes (j := 1) (b := true) rfl rfl rfl hg80 rfl rfl (os_load_one rfl one22 (cells_own (own_tail (own_tail (own_tail (own_tail (own_tail own_head))))) rfl)) ?_
            refine ES_yes (j := 1) (b := true) rfl rfl rfl hg80 rfl rfl (os_leq rfl rfl) ?_
            refine ES_s rfl rfl rfl (os_pick_t' rfl hg80 rfl) ?_
            exact ES_fin 5 rfl rfl (by rw [hg80]; rfl)
          · have hg80_ := hg80
            try simp only [Bool.or_eq_true, Bool.and_eq_true, Bool.or_eq_false_iff, Bool.and_eq_false_iff, decide_eq_true_eq, decide_eq_false_iff_not, Bool.not_eq_true', Bool.not_eq_false', Int.natCast_inj, Int.ofNat_lt, Int.ofNat_le] at hg80_
            refine ES_no rfl hg80 rfl rfl rfl rfl ?_
            refine ES_no rfl hg80 rfl rfl rfl rfl ?_
            refine ES_no rfl hg80 rfl rfl rfl rfl ?_
            refine ES_no rfl hg80 rfl rfl rfl rfl ?_
            refine ES_s rfl rfl rfl (os_pick_f' rfl hg80 rfl) ?_
            exact ES_fin 5 rfl rfl (by rw [hg80]; rfl)
        refine EL_s rfl rfl rfl (os_assign rfl) ?_
        refine EL_nil ?_
        refine EQ_then (EQ_wp ?_)
        refine EW_seq ?_
        refine EW_seq ?_
        -- region 15  law.go:291
        refine EW_region ?_
        refine EL_s rfl rfl rfl (os_move rfl) ?_
        refine EL_s rfl rfl rfl (os_lss rfl rfl) ?_
        refine EL_s rfl rfl rfl (os_move rfl) ?_
        refine EL_joint 3 91 (.bool ((decide (n < 1)) || (decide (5 < n)))) ?_ ?_
        · skip
          refine ES_case (decide (n < 1)) (fun hg88 => ?_) (fun hg88 => ?_)
          · have hg88_ := hg88
            try simp only [Bool.or_eq_true, Bool.and_eq_true, Bool.or_eq_false_iff, Bool.and_eq_false_iff, decide_eq_true_eq, decide_eq_false_iff_not, Bool.not_eq_true', Bool.not_eq_false', Int.natCast_inj, Int.ofNat_lt, Int.ofNat_le] at hg88_
            refine ES_no rfl hg88 rfl rfl rfl rfl ?_
            refine ES_no rfl hg88 rfl rfl rfl rfl ?_
            refine ES_s rfl rfl rfl (os_pick_t' rfl hg88 rfl) ?_
            exact ES_fin 3 rfl rfl (by rw [hg88]; rfl)
          · have hg88_ := hg88
            try simp only [Bool.or_eq_true, Bool.and_eq_true, Bool.or_eq_false_iff, Bool.and_eq_false_iff, decide_eq_true_eq, decide_eq_false_iff_not, Bool.not_eq_true', Bool.not_eq_false', Int.natCast_inj, Int.ofNat_lt, Int.ofNat_le] at hg88_
            refine ES_yes (j := 2) (b := false) rfl rfl rfl hg88 rfl rfl (os_move rfl) ?_
            refine ES_yes (j := 2) (b := false) rfl rfl rfl hg88 rfl rfl (os_gtr rfl rfl) ?_
            refine ES_s rfl rfl rfl (os_pick_f' rfl hg88 rfl) ?_
            exact ES_fin 3 rfl rfl (by rw [hg88]; rfl)
        refine EL_nil ?_
        refine EQ_then (EQ_wp ?_)
        refine EW_cond rfl (fun hc91 => ?_) (fun hc91 => ?_)
        · have hb91 := hc91
          try simp only [Bool.or_eq_true, Bool.and_eq_true, Bool.or_eq_false_iff, Bool.and_eq_false_iff, decide_eq_true_eq, decide_eq_false_iff_not, Bool.not_eq_true', Bool.not_eq_false', Int.natCast_inj, Int.ofNat_lt, Int.ofNat_le] at hc91
          exfalso; have hz1 := hg0.n1; have hz2 := hg0.n5; omega
        · have hb91 := hc91
          try simp only [Bool.or_eq_true, Bool.and_eq_true, Bool.or_eq_false_iff, Bool.and_eq_false_iff, decide_eq_true_eq, decide_eq_false_iff_not, Bool.not_eq_true', Bool.not_eq_false', Int.natCast_inj, Int.ofNat_lt, Int.ofNat_le] at hc91
          refine EW_skip ?_
          refine EQ_then (EQ_wp ?_)
          refine EW_seq ?_
          refine EW_seq ?_
          -- region 17  law.go:294
          refine EW_region ?_
          refine EL_s rfl rfl rfl (os_move rfl) ?_
          refine EL_s rfl rfl rfl (os_not rfl) ?_
          refine EL_nil ?_
          refine EQ_then (EQ_wp ?_)
          refine EW_cond rfl (fun hc99 => ?_) (fun hc99 => ?_)
          · have hb99 := hc99
            try simp only [Bool.or_eq_true, Bool.and_eq_true, Bool.or_eq_false_iff, Bool.and_eq_false_iff, decide_eq_true_eq, decide_eq_false_iff_not, Bool.not_eq_true', Bool.not_eq_false', Int.natCast_inj, Int.ofNat_lt, Int.ofNat_le] at hc99
            exfalso
            rw [List.drop_eq_nil_of_le (by omega)] at hri
            obtain ⟨hq1, hq2, hq3, hq4, hq5, hq6⟩ := new_ok hnew
            rw [hay39] at hq2 hq3 hq4 hq5 hq6
            have hq7 : risingT ts.xs f.BaseTerm f.Term = true := by rw [← laid_terms (fun i => [UInt8.ofNat i]) ts.xs, ← risingP_T]; exact hq4
            have hq8 : -1 ≤ f.Vote := hq2
            have hq9 : f.Vote < n := hq3
            have hq10 : f.Base ≤ 4611686018427387904 := hq5
            have hq11 : f.Term ≤ 4611686018427387904 := hq6
            rw [hq7] at hri
            have hri2 := hri.trans (by simp; omega : _ = true)
            simp only [risingT, Bool.and_eq_true, decide_eq_true_eq] at hri2
            rcases hc99 with h | h
            · rw [h] at hri2; exact absurd hri2.1 (by decide)
            · omega
          · have hb99 := hc99
            try simp only [Bool.or_eq_true, Bool.and_eq_true, Bool.or_eq_false_iff, Bool.and_eq_false_iff, decide_eq_true_eq, decide_eq_false_iff_not, Bool.not_eq_true', Bool.not_eq_false', Int.natCast_inj, Int.ofNat_lt, Int.ofNat_le] at hc99
            refine EW_skip ?_
            refine EQ_then (EQ_wp ?_)
            refine EW_seq ?_
            refine EW_seq ?_
            -- region 19 DRAWN  law.go:297
            refine EW_drawC [] [⟨[], some 106, [8], .s, 0⟩, ⟨[0], some 107, [106], .s, 1⟩, ⟨[1], some 108, [107], .s, 3⟩, ⟨[2], some 109, [7, 108], .s, 7⟩, ⟨[3, 2], some 110, [109, 108], .s, 15⟩, ⟨[2, 4], some 111, [108, 110], .s, 31⟩, ⟨[5, 2], some 112, [111], .s, 63⟩, ⟨[6], some 113, [7, 112], .s, 127⟩, ⟨[7, 6, 6], some 114, [113, 112], .s, 255⟩, ⟨[6], some 115, [4, 112], .s, 127⟩, ⟨[9, 6], some 116, [115, 112], .s, 639⟩, ⟨[6], some 117, [4, 112], .s, 127⟩, ⟨[11, 6], some 118, [117, 112], .s, 2175⟩, ⟨[12, 6], some 119, [118, 112], .s, 6271⟩, ⟨[13, 6], some 120, [119, 112], .s, 14463⟩, ⟨[10, 14, 6], some 121, [116, 120, 112], .s, 32383⟩, ⟨[8, 15, 6], some 122, [114, 121, 112], .s, 65535⟩, ⟨[6, 16], some 123, [112, 122], .s, 131071⟩, ⟨[17, 8], some 124, [123], .s, 262143⟩, ⟨[18], some 125, [7, 124], .s, 524287⟩, ⟨[19, 18, 18], some 126, [125, 124], .s, 1048575⟩, ⟨[18], some 127, [4, 124], .s, 524287⟩, ⟨[21, 18], some 128, [127, 124], .s, 2621439⟩, ⟨[20, 22, 18], some 129, [126, 128, 124], .s, 8388607⟩, ⟨[18, 23], some 130, [124, 129], .s, 16777215⟩] [.s, .s, .s, .s, .s, .s, .s, .s, .s, .s, .s, .s, .s, .s, .s, .s, .s, .s, .s, .s, .s, .s, .s, .s, .s] [0, 1, 2, 3, 4, 5, 6, 7, 8, 9, 10, 11, 12, 13, 14, 15, 16, 17, 18, 19, 20, 21, 22, 23, 24] mixed (by kernel_rfl) (by kernel_rfl) (by kernel_rfl) rfl rfl ?_
            refine EP_s rfl rfl rfl rfl rfl (by exact (os_move rfl)) ?_
            refine EP_s rfl rfl rfl rfl rfl (by exact (os_neq rfl rfl)) ?_
            refine EP_s rfl rfl rfl rfl rfl (by exact (os_move rfl)) ?_
            refine EP_joint 3 111 (.bool ((!decide ((0 : Int) = 0)) || false)) [3, 4, 5] rfl rfl rfl ?_ ?_
            · skip
              refine ES_case (!decide ((0 : Int) = 0)) (fun hg108 => ?_) (fun hg108 => ?_)
              · have hg108_ := hg108
                try simp only [Bool.or_eq_true, Bool.and_eq_true, Bool.or_eq_false_iff, Bool.and_eq_false_iff, decide_eq_true_eq, decide_eq_false_iff_not, Bool.not_eq_true', Bool.not_eq_false', Int.natCast_inj, Int.ofNat_lt, Int.ofNat_le] at hg108_
                refine ES_no rfl hg108 rfl rfl rfl rfl ?_
                refine ES_no rfl hg108 rfl rfl rfl rfl ?_
                refine ES_s rfl rfl rfl (os_pick_t' rfl hg108 rfl) ?_
                exact ES_fin 3 rfl rfl (by rw [hg108]; rfl)
              · have hg108_ := hg108
                try simp only [Bool.or_eq_true, Bool.and_eq_true, Bool.or_eq_false_iff, Bool.and_eq_false_iff, decide_eq_true_eq, decide_eq_false_iff_not, Bool.not_eq_true', Bool.not_eq_false', Int.natCast_inj, Int.ofNat_lt, Int.ofNat_le] at hg108_
                refine ES_yes (j := 2) (b := false) rfl rfl rfl hg108 rfl rfl (os_move rfl) ?_
                refine ES_yes (j := 2) (b := false) rfl rfl rfl hg108 rfl rfl (os_eql_pn rfl rfl unnode) ?_
                refine ES_s rfl rfl rfl (os_pick_f' rfl hg108 rfl) ?_
                exact ES_fin 3 rfl rfl (by rw [hg108]; rfl)
            refine EP_s rfl rfl rfl rfl rfl (by exact (os_move rfl)) ?_
            refine EP_joint 11 123 (.bool (((!decide ((0 : Int) = 0)) || false) || (!decide (((((x40.abs).last) : Nat) : Int) = (((f.Base + ts.h.n) : Nat) : Int))))) [7, 8, 9, 10, 11, 12, 13, 14, 15, 16, 17] rfl rfl rfl ?_ ?_
            · skip
              refine ES_case ((!decide ((0 : Int) = 0)) || false) (fun hg112 => ?_) (fun hg112 => ?_)
              · have hg112_ := hg112
                try simp only [Bool.or_eq_true, Bool.and_eq_true, Bool.or_eq_false_iff, Bool.and_eq_false_iff, decide_eq_true_eq, decide_eq_false_iff_not, Bool.not_eq_true', Bool.not_eq_false', Int.natCast_inj, Int.ofNat_lt, Int.ofNat_le] at hg112_
                refine ES_no rfl hg112 rfl rfl rfl rfl ?_
                refine ES_no rfl hg112 rfl rfl rfl rfl ?_
                refine ES_no rfl hg112 rfl rfl rfl rfl ?_
                refine ES_no rfl hg112 rfl rfl rfl rfl ?_
                refine ES_no rfl hg112 rfl rfl rfl rfl ?_
                refine ES_no rfl hg112 rfl rfl rfl rfl ?_
                refine ES_no rfl hg112 rfl rfl rfl rfl ?_
                refine ES_no rfl hg112 rfl rfl rfl rfl ?_
                refine ES_no rfl hg112 rfl rfl rfl rfl ?_
                refine ES_no rfl hg112 rfl rfl rfl rfl ?_
                refine ES_s rfl rfl rfl (os_pick_t' rfl hg112 rfl) ?_
                exact ES_fin 11 rfl rfl (by rw [hg112]; rfl)
              · have hg112_ := hg112
                try simp only [Bool.or_eq_true, Bool.and_eq_true, Bool.or_eq_false_iff, Bool.and_eq_false_iff, decide_eq_true_eq, decide_eq_false_iff_not, Bool.not_eq_true', Bool.not_eq_false', Int.natCast_inj, Int.ofNat_lt, Int.ofNat_le] at hg112_
                refine ES_yes (j := 6) (b := false) rfl rfl rfl hg112 rfl rfl (os_move rfl) ?_
                refine ES_yes (j := 6) (b := false) rfl rfl rfl hg112 rfl rfl (os_call (vs := [(.pointer (some ⟨b40, 0, none⟩))]) body14 rfl (n_Last (NodeAt.intro x40 ho40a ho40b ho40c ho40d) (incl_mid [] [_, _, _, _, _] _) (by exact hfw))) ?_
                have hq114 : NodeP.last (x40.abs) = x40.Base + x40.Entries.xs.length := by simp [NodeP.last, Node.abs]
                refine ES_yes (j := 6) (b := false) rfl rfl rfl hg112 rfl rfl (os_field rfl fl25_2) ?_
                refine ES_yes (j := 6) (b := false) rfl rfl rfl hg112 rfl rfl (os_load_one rfl one22 (cells_own (own_tail (own_tail (own_tail (own_tail (own_tail own_head))))) rfl)) ?_
                refine ES_yes (j := 6) (b := false) rfl rfl rfl hg112 rfl rfl (os_field rfl fl25_4) ?_
                refine ES_yes (j := 6) (b := false) rfl rfl rfl hg112 rfl rfl (os_load_one rfl one23 (cells_own (own_tail (own_tail (own_tail (own_tail (own_tail own_head))))) rfl)) ?_
                have hl119 := (show ts.h.n = ts.xs.length from FRow.len hts)
                refine ES_yes (j := 6) (b := false) rfl rfl rfl hg112 rfl rfl (os_len rfl sl23) ?_
                refine ES_yes (j := 6) (b := false) rfl rfl rfl hg112 rfl rfl (os_convn (p := ts.h.n) rfl ⟨_, int3⟩ int22 (IntWalk.u64_in _ (by omega))) ?_
                refine ES_yes (j := 6) (b := false) rfl rfl rfl hg112 rfl rfl (os_addn (p := f.Base) (q := ts.h.n) rfl rfl (IntWalk.u64_in _ (by omega))) ?_
                refine ES_yes (j := 6) (b := false) rfl rfl rfl hg112 rfl rfl (os_neq rfl rfl) ?_
                refine ES_s rfl rfl rfl (os_pick_f' rfl hg112 rfl) ?_
                exact ES_fin 11 rfl rfl (by rw [hg112]; rfl)
            refine EP_s rfl rfl rfl rfl rfl (by exact (os_move rfl)) ?_
            refine EP_joint 6 130 (.bool ((((!decide ((0 : Int) = 0)) || false) || (!decide (((((x40.abs).last) : Nat) : Int) = (((f.Base + ts.h.n) : Nat) : Int)))) || (!decide (((((x40.abs).commit) : Nat) : Int) = ((f.Base : Nat) : Int))))) [19, 20, 21, 22, 23, 24] rfl rfl rfl ?_ ?_
            · skip
              refine ES_case (((!decide ((0 : Int) = 0)) || false) || (!decide (((((x40.abs).last) : Nat) : Int) = (((f.Base + ts.h.n) : Nat) : Int)))) (fun hg124 => ?_) (fun hg124 => ?_)
              · have hg124_ := hg124
                try simp only [Bool.or_eq_true, Bool.and_eq_true, Bool.or_eq_false_iff, Bool.and_eq_false_iff, decide_eq_true_eq, decide_eq_false_iff_not, Bool.not_eq_true', Bool.not_eq_false', Int.natCast_inj, Int.ofNat_lt, Int.ofNat_le] at hg124_
                refine ES_no rfl hg124 rfl rfl rfl rfl ?_
                refine ES_no rfl hg124 rfl rfl rfl rfl ?_
                refine ES_no rfl hg124 rfl rfl rfl rfl ?_
                refine ES_no rfl hg124 rfl rfl rfl rfl ?_
                refine ES_no rfl hg124 rfl rfl rfl rfl ?_
                refine ES_s rfl rfl rfl (os_pick_t' rfl hg124 rfl) ?_
                exact ES_fin 6 rfl rfl (by rw [hg124]; rfl)
              · have hg124_ := hg124
                try simp only [Bool.or_eq_true, Bool.and_eq_true, Bool.or_eq_false_iff, Bool.and_eq_false_iff, decide_eq_true_eq, decide_eq_false_iff_not, Bool.not_eq_true', Bool.not_eq_false', Int.natCast_inj, Int.ofNat_lt, Int.ofNat_le] at hg124_
                refine ES_yes (j := 18) (b := false) rfl rfl rfl hg124 rfl rfl (os_move rfl) ?_
                refine ES_yes (j := 18) (b := false) rfl rfl rfl hg124 rfl rfl (os_call (vs := [(.pointer (some ⟨b40, 0, none⟩))]) body15 rfl (n_Commit (NodeAt.intro x40 ho40a ho40b ho40c ho40d) (incl_mid [] [_, _, _, _, _] _))) ?_
                refine ES_yes (j := 18) (b := false) rfl rfl rfl hg124 rfl rfl (os_field rfl fl25_2) ?_
                refine ES_yes (j := 18) (b := false) rfl rfl rfl hg124 rfl rfl (os_load_one rfl one22 (cells_own (own_tail (own_tail (own_tail (own_tail (own_tail own_head))))) rfl)) ?_
                refine ES_yes (j := 18) (b := false) rfl rfl rfl hg124 rfl rfl (os_neq rfl rfl) ?_
                refine ES_s rfl rfl rfl (os_pick_f' rfl hg124 rfl) ?_
                exact ES_fin 6 rfl rfl (by rw [hg124]; rfl)
            refine EP_nil ?_
            refine EQ_then (EQ_wp ?_)
            refine EW_cond rfl (fun hc130 => ?_) (fun hc130 => ?_)
            · have hb130 := hc130
              try simp only [Bool.or_eq_true, Bool.and_eq_true, Bool.or_eq_false_iff, Bool.and_eq_false_iff, decide_eq_true_eq, decide_eq_false_iff_not, Bool.not_eq_true', Bool.not_eq_false', Int.natCast_inj, Int.ofNat_lt, Int.ofNat_le] at hc130
              exfalso
              have e1 : x40.abs.last = f.Base + ts.xs.length := by rw [hx40]; show y39.abs.Base + y39.abs.Entries.length = _; rw [hay39]; show f.Base + (laid _ ts.xs).length = _; rw [laid_length]
              have e2 : x40.abs.commit = f.Base := by rw [hx40]; show y39.abs.Base = _; rw [hay39]; rfl
              simp [e1, e2, htl] at hc130
            · have hb130 := hc130
              try simp only [Bool.or_eq_true, Bool.and_eq_true, Bool.or_eq_false_iff, Bool.and_eq_false_iff, decide_eq_true_eq, decide_eq_false_iff_not, Bool.not_eq_true', Bool.not_eq_false', Int.natCast_inj, Int.ofNat_lt, Int.ofNat_le] at hc130
              refine EW_skip ?_
              refine EQ_then (EQ_wp ?_)
              refine EW_seq ?_
              refine EW_seq ?_
              -- region 21  law.go:300
              refine EW_region ?_
              refine EL_s rfl rfl rfl (os_assign rfl) ?_
              refine EL_nil ?_
              refine EQ_then (EQ_wp ?_)
              refine EW_block ?_
              refine EW_loop (σ := Gh × Nat × Node × Seg × Seg × Seg × Seg) (fun ⟨IJ1, k, xn, Sna, Snb, Snc, Snd⟩ => [(0, (.int .i64 n)), (2, (notes.v)), (7, (.pointer (some ⟨b40, 0, none⟩))), (13, (.int .i64 ((k : Nat) : Int)))]) (fun ⟨IJ1, k, xn, Sna, Snb, Snc, Snd⟩ => IJ1) (fun ⟨IJ1, k, xn, Sna, Snb, Snc, Snd⟩ => [(b40, .cells (xn.cells).toArray 47)] :: Sna :: Snb :: Snc :: Snd :: [(b4, .cells #[(.int .u64 ((f.Term : Nat) : Int)), (.int .i64 f.Vote), (.int .u64 ((f.Base : Nat) : Int)), (.int .u64 ((f.BaseTerm : Nat) : Int)), (ts.v)] 25)] :: L0) (fun ⟨IJ1, k, xn, Sna, Snb, Snc, Snd⟩ => I40.le IJ1 ∧ k ≤ 40 ∧ OwnR rEntry IJ1 125 xn.Entries Sna ∧ OwnR rBool IJ1 4 xn.votes Snb ∧ OwnR rU64 IJ1 22 xn.match_ Snc ∧ OwnR rU64 IJ1 22 xn.next Snd ∧ NodeP.Good n (30 + 40 * k) xn.abs) (fun ⟨IJ1, k, xn, Sna, Snb, Snc, Snd⟩ => 40 - k) (I40, 0, x40, S40a, S40b, S40c, S40d) ⟨Gh.le.refl _, ⟨Nat.zero_le _, ho40a, ho40b, ho40c, ho40d, hg0⟩⟩ ⟨rfl, rfl, rfl, rfl, trivial⟩ (fun w h => h) ?_
              rintro ⟨IJ1, k, xn, Sna, Snb, Snc, Snd⟩ ⟨hIJ1, ⟨hk, hona, honb, honc, hond, hg⟩⟩
              have hfw : xn.abs.Few := hg.few (by omega)
              refine EW_seq ?_
              refine EW_seq ?_
              -- region 22  law.go:300
              refine EW_region ?_
              refine EL_s rfl rfl rfl (os_move rfl) ?_
              refine EL_s rfl rfl rfl (os_move rfl) ?_
              have hl133 := (show notes.h.n = notes.xs.length from FRow.len hnotes)
              refine EL_s rfl rfl rfl (os_len rfl sl26) ?_
              refine EL_s rfl rfl rfl (os_lss rfl rfl) ?_
              refine EL_s rfl rfl rfl (os_move rfl) ?_
              refine EL_joint 3 138 (.bool ((decide (((k : Nat) : Int) < ((notes.h.n : Nat) : Int))) && (decide (((k : Nat) : Int) < 40)))) ?_ ?_
              · skip
                refine ES_case (decide (((k : Nat) : Int) < ((notes.h.n : Nat) : Int))) (fun hg135 => ?_) (fun hg135 => ?_)
                · have hg135_ := hg135
                  try simp only [Bool.or_eq_true, Bool.and_eq_true, Bool.or_eq_false_iff, Bool.and_eq_false_iff, decide_eq_true_eq, decide_eq_false_iff_not, Bool.not_eq_true', Bool.not_eq_false', Int.natCast_inj, Int.ofNat_lt, Int.ofNat_le] at hg135_
                  refine ES_yes (j := 4) (b := true) rfl rfl rfl hg135 rfl rfl (os_move rfl) ?_
                  refine ES_yes (j := 4) (b := true) rfl rfl rfl hg135 rfl rfl (os_lss rfl rfl) ?_
                  refine ES_s rfl rfl rfl (os_pick_t' rfl hg135 rfl) ?_
                  exact ES_fin 3 rfl rfl (by rw [hg135]; rfl)
                · have hg135_ := hg135
                  try simp only [Bool.or_eq_true, Bool.and_eq_true, Bool.or_eq_false_iff, Bool.and_eq_false_iff, decide_eq_true_eq, decide_eq_false_iff_not, Bool.not_eq_true', Bool.not_eq_false', Int.natCast_inj, Int.ofNat_lt, Int.ofNat_le] at hg135_
                  refine ES_no rfl hg135 rfl rfl rfl rfl ?_
                  refine ES_no rfl hg135 rfl rfl rfl rfl ?_
                  refine ES_s rfl rfl rfl (os_pick_f' rfl hg135 rfl) ?_
                  exact ES_fin 3 rfl rfl (by rw [hg135]; rfl)
              refine EL_nil ?_
              refine EQ_then (EQ_wp ?_)
              refine EW_cond rfl (fun hc138 => ?_) (fun hc138 => ?_)
              · have hb138 := hc138
                try simp only [Bool.or_eq_true, Bool.and_eq_true, Bool.or_eq_false_iff, Bool.and_eq_false_iff, decide_eq_true_eq, decide_eq_false_iff_not, Bool.not_eq_true', Bool.not_eq_false', Int.natCast_inj, Int.ofNat_lt, Int.ofNat_le] at hc138
                refine EW_skip ?_
                refine EQ_then (EQ_wp ?_)
                refine EW_seq ?_
                refine EW_block ?_
                refine EW_seq ?_
                -- region 24  law.go:301
                refine EW_region ?_
                refine EL_s rfl rfl rfl (os_move rfl) ?_
                refine EL_s rfl rfl rfl (os_move rfl) ?_
                have hl143 := (show notes.h.n = notes.xs.length from FRow.len hnotes)
                obtain ⟨x143, hx143⟩ := get_some (l := notes.xs) (k := k) (by first | omega | (simp only [List.length_set, List.length_replicate, List.length_cons, List.length_nil]; omega) | (simp <;> omega))
                refine EL_s rfl rfl rfl (os_at (m := notes.h.n) (k) rfl rfl (by omega) sl26 (by omega) (by have hz_ := FRow.some hnotes (by show 0 < notes.h.n; omega); exact hz_)) ?_
                have hk144 := FRow.okAt hnotes hx143
                refine EL_s rfl rfl rfl (os_load_agg (cs := rNote.cells x143) rfl agg44 (FRow.whole (FRow.mono hnotes (hI39.trans (hI40.trans hIJ1)) (((((((Incl.refl _).skip _).skip _).skip _).skip _).skip _).skip _)) hx143)) ?_
                refine EL_g rfl rfl rfl (og_call (vs := [(.agg (x143.cells).toArray)]) body16 rfl (l_msg (hk144.mono (hI39.trans (hI40.trans hIJ1))) (by exact hp1 x143 (List.mem_of_getElem? hx143)))) ?_
                intro I145 v145 hI145 hv145
                obtain ⟨y145, rfl, hy145, hay145⟩ := hv145
                refine EL_a rfl rfl rfl (oa_alloc z41) ?_
                intro b14
                refine EL_u rfl rfl (ox_store rfl rfl sz41 rfl (by rfl) (.head .head)) ?_
                refine EL_nil ?_
                refine EQ_then (EQ_wp ?_)
                refine EW_seq_cut (σ := (Sl Entry)) (fun es => [(0, (.int .i64 n)), (2, (notes.v)), (7, (.pointer (some ⟨b40, 0, none⟩))), (13, (.int .i64 ((k : Nat) : Int))), (14, (.pointer (some ⟨b14, 0, none⟩)))]) (fun es => I145) (fun es => [(b14, .cells #[(.int .i64 y145.Kind), (.int .i64 y145.From), (.int .i64 y145.To), (.int .u64 ((y145.Term : Nat) : Int)), (.int .u64 ((y145.Index : Nat) : Int)), (.int .u64 ((y145.LogTerm : Nat) : Int)), (.int .u64 ((y145.Commit : Nat) : Int)), (es.v), (.bool y145.OK), (y145.Data.v)] 41)] :: [(b40, .cells (xn.cells).toArray 47)] :: Sna :: Snb :: Snc :: Snd :: [(b4, .cells #[(.int .u64 ((f.Term : Nat) : Int)), (.int .i64 f.Vote), (.int .u64 ((f.Base : Nat) : Int)), (.int .u64 ((f.BaseTerm : Nat) : Int)), (ts.v)] 25)] :: L0) (fun es => FRow rEntry I145 [] es ∧ es.xs.length ≤ 30) ?_ ?_
                · skip
                  refine EW_seq ?_
                  -- region 25  law.go:302
                  refine EW_region ?_
                  refine EL_s rfl rfl rfl (os_field rfl fl41_7) ?_
                  refine EL_s rfl rfl rfl (os_load_one rfl one34 (cells_own own_head rfl)) ?_
                  have hl148 := (show y145.Entries.h.n = y145.Entries.xs.length from FRow.len hy145.Entries)
                  refine EL_s rfl rfl rfl (os_len rfl sl34) ?_
                  refine EL_s rfl rfl rfl (os_gtr rfl rfl) ?_
                  refine EL_nil ?_
                  refine EQ_then (EQ_wp ?_)
                  refine EW_cond rfl (fun hc149 => ?_) (fun hc149 => ?_)
                  · have hb149 := hc149
                    try simp only [Bool.or_eq_true, Bool.and_eq_true, Bool.or_eq_false_iff, Bool.and_eq_false_iff, decide_eq_true_eq, decide_eq_false_iff_not, Bool.not_eq_true', Bool.not_eq_false', Int.natCast_inj, Int.ofNat_lt, Int.ofNat_le] at hc149
                    -- region 26  law.go:303
                    refine EW_region ?_
                    refine EL_s rfl rfl rfl (os_field rfl fl41_7) ?_
                    refine EL_s rfl rfl rfl (os_load_one rfl one34 (cells_own own_head rfl)) ?_
                    have hl152 := (show y145.Entries.h.n = y145.Entries.xs.length from FRow.len hy145.Entries)
                    have hn152 := (show y145.Entries.h.n ≤ y145.Entries.h.c from FRow.nle hy145.Entries)
                    have hs152 := (FRow.subS (l := 0) (u := 30) 2 rfl hy145.Entries (by omega) (by omega))
                    refine EL_s rfl rfl rfl (os_sub_slice (k := .i64) (k' := .i64) 0 30 rfl sl34 rfl ⟨_, rfl, by omega⟩ (by omega) (by omega)) ?_
                    refine EL_s rfl rfl rfl (os_field rfl fl41_7) ?_
                    refine EL_u rfl rfl (ox_store rfl rfl sz34 rfl (by rfl) (.head .head)) ?_
                    refine EL_nil ?_
                    refine EQ_cut ((subSl 2 y145.Entries 0 30)) ?_ ?_ ?_
                    · exact ⟨(FRow.mono hs152 (.refl _) (Incl.nil _)), by show (List.extract _ 0 30).length ≤ 30; rw [List.extract_eq_take_drop]; simp; omega⟩
                    · exact ⟨rfl, rfl, rfl, rfl, rfl, trivial⟩
                    · exact fun w h => h.incl (Incl.cons (Incl.cons (Incl.cons (Incl.cons (Incl.cons (Incl.cons (Incl.cons (Incl.refl _) _) _) _) _) _) _) _)
                  · have hb149 := hc149
                    try simp only [Bool.or_eq_true, Bool.and_eq_true, Bool.or_eq_false_iff, Bool.and_eq_false_iff, decide_eq_true_eq, decide_eq_false_iff_not, Bool.not_eq_true', Bool.not_eq_false', Int.natCast_inj, Int.ofNat_lt, Int.ofNat_le] at hc149
                    refine EW_skip ?_
                    refine EQ_cut (y145.Entries) ?_ ?_ ?_
                    · exact ⟨(FRow.mono hy145.Entries (.refl _) (Incl.nil _)), by omega⟩
                    · exact ⟨rfl, rfl, rfl, rfl, rfl, trivial⟩
                    · exact fun w h => h.incl (Incl.cons (Incl.cons (Incl.cons (Incl.cons (Incl.cons (Incl.cons (Incl.cons (Incl.refl _) _) _) _) _) _) _) _)
                · rintro es ⟨hes, hes3⟩
                  refine EW_seq ?_
                  -- region 27 DRAWN  law.go:305
                  refine EW_drawC [] [⟨[], some 154, [7], .s, 0⟩, ⟨[0], some 155, [154], .s, 1⟩, ⟨[1], some 156, [155], .s, 3⟩, ⟨[2], some 157, [156], .s, 7⟩, ⟨[3], some 158, [157], .s, 15⟩, ⟨[4], some 159, [158], .s, 31⟩, ⟨[], some 160, [7], .s, 0⟩, ⟨[6], some 161, [160], .s, 64⟩, ⟨[], some 162, [7], .s, 0⟩, ⟨[8], some 163, [162], .s, 256⟩, ⟨[9], some 164, [163], .s, 768⟩, ⟨[10], some 165, [164], .s, 1792⟩, ⟨[11], some 166, [165], .s, 3840⟩, ⟨[12], some 167, [166], .s, 7936⟩, ⟨[5, 7, 0, 1, 2, 3, 4, 5], some 15, [159], .s, 255⟩, ⟨[7, 14, 0, 1, 2, 3, 4, 5, 6, 7, 14], some 16, [161], .s, 16639⟩, ⟨[13, 15, 0, 1, 2, 3, 4, 5, 6, 7, 8, 9, 10, 11, 12, 13, 14, 15], some 17, [167], .s, 65535⟩] [.s, .s, .s, .s, .s, .s, .s, .s, .s, .s, .s, .s, .s, .s, .s, .s, .s] [0, 1, 2, 3, 4, 5, 6, 7, 8, 9, 10, 11, 12, 13, 14, 15, 16] mixed (by kernel_rfl) (by kernel_rfl) (by kernel_rfl) rfl rfl ?_
                  refine EP_s rfl rfl rfl rfl rfl (by exact (os_move rfl)) ?_
                  refine EP_s rfl rfl rfl rfl rfl (by exact (os_nilCheck rfl)) ?_
                  refine EP_s rfl rfl rfl rfl rfl (by exact (os_field rfl fl47_0)) ?_
                  refine EP_s rfl rfl rfl rfl rfl (by exact (os_field rfl fl36_0)) ?_
                  refine EP_s rfl rfl rfl rfl rfl (by exact (os_field rfl fl33_0)) ?_
                  refine EP_s rfl rfl rfl rfl rfl (by exact (os_load_one rfl one22 (cells_own (own_tail own_head) rfl))) ?_
                  refine EP_s rfl rfl rfl rfl rfl (by exact (os_move rfl)) ?_
                  refine EP_s rfl rfl rfl rfl rfl (by exact (os_call (vs := [(.pointer (some ⟨b40, 0, none⟩))]) body15 rfl (n_Commit (NodeAt.intro xn (hona.mono hI145) (honb.mono hI145) (honc.mono hI145) (hond.mono hI145)) (incl_mid [_] [_, _, _, _, _] _)))) ?_
                  refine EP_s rfl rfl rfl rfl rfl (by exact (os_move rfl)) ?_
                  refine EP_s rfl rfl rfl rfl rfl (by exact (os_nilCheck rfl)) ?_
                  refine EP_s rfl rfl rfl rfl rfl (by exact (os_field rfl fl47_0)) ?_
                  refine EP_s rfl rfl rfl rfl rfl (by exact (os_field rfl fl36_0)) ?_
                  refine EP_s rfl rfl rfl rfl rfl (by exact (os_field rfl fl33_1)) ?_
                  refine EP_s rfl rfl rfl rfl rfl (by exact (os_load_one rfl one3 (cells_own (own_tail own_head) rfl))) ?_
                  refine EP_s rfl rfl rfl rfl rfl (by exact (os_assign rfl)) ?_
                  refine EP_s rfl rfl rfl rfl rfl (by exact (os_assign rfl)) ?_
                  refine EP_s rfl rfl rfl rfl rfl (by exact (os_assign rfl)) ?_
                  refine EP_nil ?_
                  refine EQ_then (EQ_wp ?_)
                  refine EW_seq ?_
                  -- region 28  law.go:306
                  refine EW_region ?_
                  refine EL_s rfl rfl rfl (os_move rfl) ?_
                  refine EL_s rfl rfl rfl (os_load_agg (cs := [_, _, _, _, _, _, _, _, _, _]) rfl agg41 (cells_own own_head rfl)) ?_
                  have hr_a170_1 : Msg.Ok I145 (Msg.mk y145.Kind y145.From y145.To y145.Term y145.Index y145.LogTerm y145.Commit es y145.OK y145.Data) := ⟨hy145.Kind, hy145.From, hy145.To, hy145.Term, hy145.Index, hy145.LogTerm, hy145.Commit, (FRow.mono hes (.refl _) (.refl _)), (FRow.mono hy145.Data (.refl _) (.refl _))⟩
                  refine EL_s rfl rfl rfl (os_call (vs := [(.pointer (some ⟨b40, 0, none⟩)), .agg ((Msg.mk y145.Kind y145.From y145.To y145.Term y145.Index y145.LogTerm y145.Commit es y145.OK y145.Data).cells).toArray]) body17 rfl (n_Wants (NodeAt.intro xn (hona.mono hI145) (honb.mono hI145) (honc.mono hI145) (hond.mono hI145)) (incl_mid [_] [_, _, _, _, _] _) hr_a170_1 (by exact hfw))) ?_
                  refine EL_s rfl rfl rfl (os_assign rfl) ?_
                  refine EL_nil ?_
                  refine EQ_then (EQ_wp ?_)
                  refine EW_seq ?_
                  -- region 29  law.go:307
                  refine EW_region ?_
                  refine EL_s rfl rfl rfl (os_move rfl) ?_
                  refine EL_s rfl rfl rfl (os_load_agg (cs := [_, _, _, _, _, _, _, _, _, _]) rfl agg41 (cells_own own_head rfl)) ?_
                  have hr_a173_1 : Msg.Ok I145 (Msg.mk y145.Kind y145.From y145.To y145.Term y145.Index y145.LogTerm y145.Commit es y145.OK y145.Data) := ⟨hy145.Kind, hy145.From, hy145.To, hy145.Term, hy145.Index, hy145.LogTerm, hy145.Commit, (FRow.mono hes (.refl _) (.refl _)), (FRow.mono hy145.Data (.refl _) (.refl _))⟩
                  refine EL_x rfl rfl (ox_callN (vs := [(.pointer (some ⟨b40, 0, none⟩)), .agg ((Msg.mk y145.Kind y145.From y145.To y145.Term y145.Index y145.LogTerm y145.Commit es y145.OK y145.Data).cells).toArray]) body18 rfl (pl_1_5 _ _ _ _ _ _ _) (n_Step (NodeAt.intro xn (hona.mono hI145) (honb.mono hI145) (honc.mono hI145) (hond.mono hI145)) hr_a173_1 (by exact hfw) (by have hz := hg.len; omega) (by exact hg.vts) (by exact hg.mat) (by exact hg.nxt) (by exact hg.mbd) (by show (es.xs.map Entry.abs).length ≤ 1000000000; rw [List.length_map]; omega))) ?_
                  rintro I173 L173 v173 hI173 ⟨Ss173, rfl, ⟨x173, S173a, S173b, S173c, S173d, hx173, rfl, ho173a, ho173b, ho173c, ho173d⟩, ⟨y173, rfl, hy173, hay173⟩⟩
                  refine EL_perm (nm_5 _ _ _ _ _ _) ?_
                  have hes4 : ((Msg.abs (Msg.mk y145.Kind y145.From y145.To y145.Term y145.Index y145.LogTerm y145.Commit es y145.OK y145.Data))).Entries.length ≤ 30 := by show (es.xs.map Entry.abs).length ≤ 30; rw [List.length_map]; exact hes3
                  have hd := NodeP.does_step hg (by omega) hes4
                  have hg2 : NodeP.Good n (30 + 40 * k + 30) x173.abs := by rw [hx173]; exact hd.good
                  have hle2 : NodeP.Le xn.abs x173.abs := by rw [hx173]; exact hd.le
                  have hfi2 : ∀ a ∈ y173.xs.map Msg.abs, NodeP.Fine n x173.Term a := by rw [hay173]; intro a ha; have hz := hd.fine a ha; rw [← hx173] at hz; exact hz
                  have hwn2 : xn.abs.wants (Msg.abs (Msg.mk y145.Kind y145.From y145.To y145.Term y145.Index y145.LogTerm y145.Commit es y145.OK y145.Data)) = true → NodeP.Left (Msg.abs (Msg.mk y145.Kind y145.From y145.To y145.Term y145.Index y145.LogTerm y145.Commit es y145.OK y145.Data)) x173.abs := fun h => by rw [hx173]; exact NodeP.wants_step h
                  have hl173 : y173.xs.length ≤ 5 := by have hz := congrArg List.length hay173; rw [List.length_map] at hz; rw [hz]; exact NodeP.step_len (by rw [hg.nn]; exact hg.n5) _
                  refine EL_s rfl rfl rfl (os_assign rfl) ?_
                  refine EL_nil ?_
                  refine EQ_then (EQ_wp ?_)
                  refine EW_seq_cut (σ := Gh × Node × Seg × Seg × Seg × Seg × (Sl Msg)) (fun ⟨IC3, xm, Sma, Smb, Smc, Smd, out⟩ => [(0, (.int .i64 n)), (2, (notes.v)), (7, (.pointer (some ⟨b40, 0, none⟩))), (13, (.int .i64 ((k : Nat) : Int))), (14, (.pointer (some ⟨b14, 0, none⟩))), (15, (.int .u64 ((xn.Term : Nat) : Int))), (16, (.int .u64 ((((xn.abs).commit) : Nat) : Int))), (17, (.int .i64 xn.Vote)), (18, (.bool ((xn.abs).wants (Msg.mk y145.Kind y145.From y145.To y145.Term y145.Index y145.LogTerm y145.Commit es y145.OK y145.Data).abs))), (19, (out.v))]) (fun ⟨IC3, xm, Sma, Smb, Smc, Smd, out⟩ => IC3) (fun ⟨IC3, xm, Sma, Smb, Smc, Smd, out⟩ => [(b40, .cells (xm.cells).toArray 47)] :: Sma :: Smb :: Smc :: Smd :: [(b14, .cells #[(.int .i64 y145.Kind), (.int .i64 y145.From), (.int .i64 y145.To), (.int .u64 ((y145.Term : Nat) : Int)), (.int .u64 ((y145.Index : Nat) : Int)), (.int .u64 ((y145.LogTerm : Nat) : Int)), (.int .u64 ((y145.Commit : Nat) : Int)), (es.v), (.bool y145.OK), (y145.Data.v)] 41)] :: [(b4, .cells #[(.int .u64 ((f.Term : Nat) : Int)), (.int .i64 f.Vote), (.int .u64 ((f.Base : Nat) : Int)), (.int .u64 ((f.BaseTerm : Nat) : Int)), (ts.v)] 25)] :: L0) (fun ⟨IC3, xm, Sma, Smb, Smc, Smd, out⟩ => I173.le IC3 ∧ FRow rMsg IC3 [] out ∧ OwnR rEntry IC3 125 xm.Entries Sma ∧ OwnR rBool IC3 4 xm.votes Smb ∧ OwnR rU64 IC3 22 xm.match_ Smc ∧ OwnR rU64 IC3 22 xm.next Smd ∧ NodeP.Good n (30 + 40 * k + 31) xm.abs ∧ NodeP.Le xn.abs xm.abs ∧ (∀ a ∈ out.xs.map Msg.abs, NodeP.Fine n xm.Term a) ∧ (xn.abs.wants (Msg.abs (Msg.mk y145.Kind y145.From y145.To y145.Term y145.Index y145.LogTerm y145.Commit es y145.OK y145.Data)) = true → xm.abs.Entries = [] ∧ xm.abs.Base = y145.Index ∧ xm.abs.BaseTerm = y145.LogTerm ∧ xm.abs.commit = y145.Index)) ?_ ?_
                  · skip
                    refine EW_seq ?_
                    -- region 30  law.go:308
                    refine EW_region ?_
                    refine EL_s rfl rfl rfl (os_move rfl) ?_
                    refine EL_s rfl rfl rfl (os_rem rfl rfl rfl (by omega)) ?_
                    refine EL_s rfl rfl rfl (os_eql rfl rfl) ?_
                    refine EL_nil ?_
                    refine EQ_then (EQ_wp ?_)
                    refine EW_cond rfl (fun hc176 => ?_) (fun hc176 => ?_)
                    · have hb176 := hc176
                      try simp only [Bool.or_eq_true, Bool.and_eq_true, Bool.or_eq_false_iff, Bool.and_eq_false_iff, decide_eq_true_eq, decide_eq_false_iff_not, Bool.not_eq_true', Bool.not_eq_false', Int.natCast_inj, Int.ofNat_lt, Int.ofNat_le] at hc176
                      -- region 31  law.go:309
                      refine EW_region ?_
                      refine EL_a rfl rfl rfl (oa_slice [] sl49 z41 rfl rfl rfl rfl) ?_
                      intro b177
                      have hob177 : OwnR rMsg I173 41 (Sl.mk (Hd.mk (some ⟨b177, 0, none⟩) 0 0) []) [(b177, .cells _ 41)] := OwnR.lit rfl rfl (by unfold maxLen; omega) (by decide) (fun x hx => by cases hx)
                      refine EL_s rfl rfl rfl (os_move rfl) ?_
                      refine EL_y rfl rfl rfl (ox_app (R := rMsg) (bytes := 112) (s := (Sl.mk (Hd.mk (some ⟨b177, 0, none⟩) 0 0) [])) (s' := y173) 10 rfl rfl rfl rfl sl49 z41 rfl hob177 (List.Perm.refl _) (FRow.mono hy173 (.refl _) (Incl.nil _)) (by first | omega | (simp only [List.length_cons, List.length_nil, Nat.zero_add]; omega)) (by unfold maxLen; first | omega | (simp only [List.length_cons, List.length_nil, Nat.zero_add]; omega))) ?_
                      rintro L179 v179 ⟨s179, S179, rfl, rfl, hx179, ho179⟩
                      refine EL_s rfl rfl rfl (os_move rfl) ?_
                      refine EL_x rfl rfl (ox_callN (vs := [(.pointer (some ⟨b40, 0, none⟩))]) body19 rfl (pl_1_5 _ _ _ _ _ _ _) (n_Tick (NodeAt.intro x173 ho173a ho173b ho173c ho173d) (by exact hg2.few (by omega)) (by have hz := hg2.len; omega) (by exact hg2.nxt))) ?_
                      rintro I181 L181 v181 hI181 ⟨Ss181, rfl, ⟨x181, S181a, S181b, S181c, S181d, hx181, rfl, ho181a, ho181b, ho181c, ho181d⟩, ⟨y181, rfl, hy181, hay181⟩⟩
                      refine EL_perm (nm_5 _ _ _ _ _ _) ?_
                      have hd3 := NodeP.does_tick hg2 (by omega)
                      have hg3 : NodeP.Good n (30 + 40 * k + 31) x181.abs := by rw [hx181]; exact hd3.good.more (by omega)
                      have hle3 : NodeP.Le x173.abs x181.abs := by rw [hx181]; exact hd3.le
                      have hfi3 : ∀ a ∈ y181.xs.map Msg.abs, NodeP.Fine n x181.Term a := by rw [hay181]; intro a ha; have hz := hd3.fine a ha; rw [← hx181] at hz; exact hz
                      have hl181 : y181.xs.length ≤ 5 := by have hz := congrArg List.length hay181; rw [List.length_map] at hz; rw [hz]; exact NodeP.tick_len (by rw [hg2.nn]; exact hg2.n5)
                      have hl179 : s179.xs.length ≤ 5 := by rw [hx179]; simpa using hl173
                      refine EL_y rfl rfl rfl (ox_app (R := rMsg) (bytes := 112) (s := s179) (s' := y181) 10 rfl rfl rfl rfl sl49 z41 rfl (ho179.mono hI181) (bk_5 _ _ _ _ _ _ _) (FRow.mono hy181 (.refl _) (Incl.nil _)) (by first | omega | (simp only [List.length_cons, List.length_nil, Nat.zero_add]; omega)) (by unfold maxLen; first | omega | (simp only [List.length_cons, List.length_nil, Nat.zero_add]; omega))) ?_
                      rintro L182 v182 ⟨s182, S182, rfl, rfl, hx182, ho182⟩
                      refine EL_perm (bk_5 _ _ _ _ _ _ _) ?_
                      refine EL_freeze (bk_5 _ _ _ _ _ _ _) (fun If182 hIf182 hff182 => ?_)
                      have hzf182 : FRow rMsg If182 [] s182 := OwnR.frow (ho182.mono hIf182) fun x hx => .inl (hff182 x hx)
                      refine EL_s rfl rfl rfl (os_assign rfl) ?_
                      refine EL_nil ?_
                      refine EQ_cut (If182, x181, S181a, S181b, S181c, S181d, s182) ?_ ?_ ?_
                      · exact ⟨(hI181.trans hIf182), ⟨(FRow.mono hzf182 (.refl _) (Incl.nil _)), (ho181a.mono hIf182), (ho181b.mono hIf182), (ho181c.mono hIf182), (ho181d.mono hIf182), hg3, hle2.trans hle3, by (rw [hx182, hx179]; intro a ha; simp only [List.nil_append, List.map_append, List.mem_append] at ha; rcases ha with ha | ha; exact (hfi2 a ha).more hle3.term; exact hfi3 a ha), fun h => by (have hz := NodeP.left_tick hg2 (hwn2 h); rw [← hx181] at hz; exact hz)⟩⟩
                      · exact ⟨rfl, rfl, rfl, rfl, rfl, rfl, rfl, rfl, rfl, rfl, trivial⟩
                      · exact fun w h => h.incl (Incl.cons (Incl.cons (Incl.cons (Incl.cons (Incl.cons (Incl.cons (Incl.cons (Incl.refl _) _) _) _) _) _) _) _)
                    · have hb176 := hc176
                      try simp only [Bool.or_eq_true, Bool.and_eq_true, Bool.or_eq_false_iff, Bool.and_eq_false_iff, decide_eq_true_eq, decide_eq_false_iff_not, Bool.not_eq_true', Bool.not_eq_false', Int.natCast_inj, Int.ofNat_lt, Int.ofNat_le] at hc176
                      refine EW_skip ?_
                      refine EQ_cut (I173, x173, S173a, S173b, S173c, S173d, y173) ?_ ?_ ?_
                      · exact ⟨(.refl _), ⟨(FRow.mono hy173 (.refl _) (Incl.nil _)), ho173a, ho173b, ho173c, ho173d, hg2.more (by omega), hle2, hfi2, fun h => ⟨(hwn2 h).ent, (hwn2 h).base, (hwn2 h).bt, (hwn2 h).com⟩⟩⟩
                      · exact ⟨rfl, rfl, rfl, rfl, rfl, rfl, rfl, rfl, rfl, rfl, trivial⟩
                      · exact fun w h => h.incl (Incl.cons (Incl.cons (Incl.cons (Incl.cons (Incl.cons (Incl.cons (Incl.cons (Incl.refl _) _) _) _) _) _) _) _)
                  · rintro ⟨IC3, xm, Sma, Smb, Smc, Smd, out⟩ ⟨hIC3, ⟨hout, homa, homb, homc, homd, hg3, hle, hfine, hwant⟩⟩
                    have hfw : xm.abs.Few := hg3.few (by omega)
                    have hmt : xm.Term ≤ 4611686018427387904 := hg3.term
                    have hol := FRow.len hout
                    have hof := hout.few
                    simp only [rMsg] at hof
                    have hel9 : xm.abs.Entries.length ≤ 1000000000 := hfw.len
                    have hlb0 : xm.abs.last = xm.Base + xm.abs.Entries.length := rfl
                    have hbm : xm.Base ≤ 4611686018427387904 := hg3.base
                    have hbt2 : xm.BaseTerm ≤ xm.Term := risingP_le hg3.ris
                    have hlb : xm.abs.last ≤ 9300000000000000000 := by omega
                    refine EW_seq ?_
                    refine EW_seq ?_
                    -- region 32  law.go:311
                    refine EW_region ?_
                    refine EL_s rfl rfl rfl (os_move rfl) ?_
                    refine EL_g rfl rfl rfl (og_call (vs := [(.pointer (some ⟨b40, 0, none⟩))]) body21 rfl (l_told (NodeAt.intro xm homa homb homc homd) (incl_mid [] [_, _, _, _, _] _) (by exact hfw) (by exact ⟨hg3.vote.1, by have hz := hg3.vote.2; have hz2 := hg3.n5; omega⟩) (by exact hg3.role))) ?_
                    intro I184 v184 hI184 hv184
                    obtain ⟨y184, rfl, hy184, hay184⟩ := hv184
                    refine EL_s rfl rfl rfl (os_move rfl) ?_
                    refine EL_s rfl rfl rfl (os_call (vs := [(.agg (y184.cells).toArray), (.int .i64 n)]) body20 rfl (r_Form hy184 n (by have h1 : y184.Base = xm.Base := congrArg RNodeP.Base hay184; have h2 := congrArg (fun z => z.Log.length) hay184; simp [RNode.abs, refOf, Node.abs] at h2; have h3 := hfw.base; have h4 := hfw.len; simp only [Node.abs, List.length_map] at h3 h4; omega))) ?_
                    refine EL_s rfl rfl rfl (os_not rfl) ?_
                    refine EL_s rfl rfl rfl (os_move rfl) ?_
                    refine EL_joint 9 197 (.bool ((!(formB y184.abs n)) || (decide (((xm.Term : Nat) : Int) < ((xn.Term : Nat) : Int))))) ?_ ?_
                    · skip
                      refine ES_case (!(formB y184.abs n)) (fun hg188 => ?_) (fun hg188 => ?_)
                      · have hg188_ := hg188
                        try simp only [Bool.or_eq_true, Bool.and_eq_true, Bool.or_eq_false_iff, Bool.and_eq_false_iff, decide_eq_true_eq, decide_eq_false_iff_not, Bool.not_eq_true', Bool.not_eq_false', Int.natCast_inj, Int.ofNat_lt, Int.ofNat_le] at hg188_
                        refine ES_no rfl hg188 rfl rfl rfl rfl ?_
                        refine ES_no rfl hg188 rfl rfl rfl rfl ?_
                        refine ES_no rfl hg188 rfl rfl rfl rfl ?_
                        refine ES_no rfl hg188 rfl rfl rfl rfl ?_
                        refine ES_no rfl hg188 rfl rfl rfl rfl ?_
                        refine ES_no rfl hg188 rfl rfl rfl rfl ?_
                        refine ES_no rfl hg188 rfl rfl rfl rfl ?_
                        refine ES_no rfl hg188 rfl rfl rfl rfl ?_
                        refine ES_s rfl rfl rfl (os_pick_t' rfl hg188 rfl) ?_
                        exact ES_fin 9 rfl rfl (by rw [hg188]; rfl)
                      · have hg188_ := hg188
                        try simp only [Bool.or_eq_true, Bool.and_eq_true, Bool.or_eq_false_iff, Bool.and_eq_false_iff, decide_eq_true_eq, decide_eq_false_iff_not, Bool.not_eq_true', Bool.not_eq_false', Int.natCast_inj, Int.ofNat_lt, Int.ofNat_le] at hg188_
                        refine ES_yes (j := 5) (b := false) rfl rfl rfl hg188 rfl rfl (os_move rfl) ?_
                        refine ES_yes (j := 5) (b := false) rfl rfl rfl hg188 rfl rfl (os_nilCheck rfl) ?_
                        refine ES_yes (j := 5) (b := false) rfl rfl rfl hg188 rfl rfl (os_field rfl fl47_0) ?_
                        refine ES_yes (j := 5) (b := false) rfl rfl rfl hg188 rfl rfl (os_field rfl fl36_0) ?_
                        refine ES_yes (j := 5) (b := false) rfl rfl rfl hg188 rfl rfl (os_field rfl fl33_0) ?_
                        refine ES_yes (j := 5) (b := false) rfl rfl rfl hg188 rfl rfl (os_load_one rfl one22 (cells_own own_head rfl)) ?_
                        refine ES_yes (j := 5) (b := false) rfl rfl rfl hg188 rfl rfl (os_move rfl) ?_
                        refine ES_yes (j := 5) (b := false) rfl rfl rfl hg188 rfl rfl (os_lss rfl rfl) ?_
                        refine ES_s rfl rfl rfl (os_pick_f' rfl hg188 rfl) ?_
                        exact ES_fin 9 rfl rfl (by rw [hg188]; rfl)
                    refine EL_s rfl rfl rfl (os_move rfl) ?_
                    refine EL_joint 5 203 (.bool (((!(formB y184.abs n)) || (decide (((xm.Term : Nat) : Int) < ((xn.Term : Nat) : Int)))) || (decide (((((xm.abs).commit) : Nat) : Int) < ((((xn.abs).commit) : Nat) : Int))))) ?_ ?_
                    · skip
                      refine ES_case ((!(formB y184.abs n)) || (decide (((xm.Term : Nat) : Int) < ((xn.Term : Nat) : Int)))) (fun hg198 => ?_) (fun hg198 => ?_)
                      · have hg198_ := hg198
                        try simp only [Bool.or_eq_true, Bool.and_eq_true, Bool.or_eq_false_iff, Bool.and_eq_false_iff, decide_eq_true_eq, decide_eq_false_iff_not, Bool.not_eq_true', Bool.not_eq_false', Int.natCast_inj, Int.ofNat_lt, Int.ofNat_le] at hg198_
                        refine ES_no rfl hg198 rfl rfl rfl rfl ?_
                        refine ES_no rfl hg198 rfl rfl rfl rfl ?_
                        refine ES_no rfl hg198 rfl rfl rfl rfl ?_
                        refine ES_no rfl hg198 rfl rfl rfl rfl ?_
                        refine ES_s rfl rfl rfl (os_pick_t' rfl hg198 rfl) ?_
                        exact ES_fin 5 rfl rfl (by rw [hg198]; rfl)
                      · have hg198_ := hg198
                        try simp only [Bool.or_eq_true, Bool.and_eq_true, Bool.or_eq_false_iff, Bool.and_eq_false_iff, decide_eq_true_eq, decide_eq_false_iff_not, Bool.not_eq_true', Bool.not_eq_false', Int.natCast_inj, Int.ofNat_lt, Int.ofNat_le] at hg198_
                        refine ES_yes (j := 15) (b := false) rfl rfl rfl hg198 rfl rfl (os_move rfl) ?_
                        refine ES_yes (j := 15) (b := false) rfl rfl rfl hg198 rfl rfl (os_call (vs := [(.pointer (some ⟨b40, 0, none⟩))]) body15 rfl (n_Commit (NodeAt.intro xm (homa.mono hI184) (homb.mono hI184) (homc.mono hI184) (homd.mono hI184)) (incl_mid [] [_, _, _, _, _] _))) ?_
                        refine ES_yes (j := 15) (b := false) rfl rfl rfl hg198 rfl rfl (os_move rfl) ?_
                        refine ES_yes (j := 15) (b := false) rfl rfl rfl hg198 rfl rfl (os_lss rfl rfl) ?_
                        refine ES_s rfl rfl rfl (os_pick_f' rfl hg198 rfl) ?_
                        exact ES_fin 5 rfl rfl (by rw [hg198]; rfl)
                    refine EL_s rfl rfl rfl (os_move rfl) ?_
                    refine EL_joint 23 227 (.bool ((((!(formB y184.abs n)) || (decide (((xm.Term : Nat) : Int) < ((xn.Term : Nat) : Int)))) || (decide (((((xm.abs).commit) : Nat) : Int) < ((((xn.abs).commit) : Nat) : Int)))) || (((decide (((xm.Term : Nat) : Int) = ((xn.Term : Nat) : Int))) && (!decide (xn.Vote = (-1)))) && (!decide (xm.Vote = xn.Vote))))) ?_ ?_
                    · skip
                      refine ES_case (((!(formB y184.abs n)) || (decide (((xm.Term : Nat) : Int) < ((xn.Term : Nat) : Int)))) || (decide (((((xm.abs).commit) : Nat) : Int) < ((((xn.abs).commit) : Nat) : Int)))) (fun hg204 => ?_) (fun hg204 => ?_)
                      · have hg204_ := hg204
                        try simp only [Bool.or_eq_true, Bool.and_eq_true, Bool.or_eq_false_iff, Bool.and_eq_false_iff, decide_eq_true_eq, decide_eq_false_iff_not, Bool.not_eq_true', Bool.not_eq_false', Int.natCast_inj, Int.ofNat_lt, Int.ofNat_le] at hg204_
                        refine ES_no rfl hg204 rfl rfl rfl rfl ?_
                        refine ES_no rfl hg204 rfl rfl rfl rfl ?_
                        refine ES_no rfl hg204 rfl rfl rfl rfl ?_
                        refine ES_no rfl hg204 rfl rfl rfl rfl ?_
                        refine ES_no rfl hg204 rfl rfl rfl rfl ?_
                        refine ES_no rfl hg204 rfl rfl rfl rfl ?_
                        refine ES_no rfl hg204 rfl rfl rfl rfl ?_
                        refine ES_no rfl hg204 rfl rfl rfl rfl ?_
                        refine ES_no rfl hg204 rfl rfl rfl rfl ?_
                        refine ES_nou rfl rfl rfl rfl rfl ?_
                        refine ES_nou rfl rfl rfl rfl rfl ?_
                        refine ES_no rfl hg204 rfl rfl rfl rfl ?_
                        refine ES_no rfl hg204 rfl rfl rfl rfl ?_
                        refine ES_nou rfl rfl rfl rfl rfl ?_
                        refine ES_nou rfl rfl rfl rfl rfl ?_
                        refine ES_nou rfl rfl rfl rfl rfl ?_
                        refine ES_nou rfl rfl rfl rfl rfl ?_
                        refine ES_nou rfl rfl rfl rfl rfl ?_
                        refine ES_nou rfl rfl rfl rfl rfl ?_
                        refine ES_nou rfl rfl rfl rfl rfl ?_
                        refine ES_nou rfl rfl rfl rfl rfl ?_
                        refine ES_no rfl hg204 rfl rfl rfl rfl ?_
                        refine ES_s rfl rfl rfl (os_pick_t' rfl hg204 rfl) ?_
                        exact ES_fin 23 rfl rfl (by rw [hg204]; rfl)
                      · have hg204_ := hg204
                        try simp only [Bool.or_eq_true, Bool.and_eq_true, Bool.or_eq_false_iff, Bool.and_eq_false_iff, decide_eq_true_eq, decide_eq_false_iff_not, Bool.not_eq_true', Bool.not_eq_false', Int.natCast_inj, Int.ofNat_lt, Int.ofNat_le] at hg204_
                        refine ES_yes (j := 21) (b := false) rfl rfl rfl hg204 rfl rfl (os_move rfl) ?_
                        refine ES_yes (j := 21) (b := false) rfl rfl rfl hg204 rfl rfl (os_nilCheck rfl) ?_
                        refine ES_yes (j := 21) (b := false) rfl rfl rfl hg204 rfl rfl (os_field rfl fl47_0) ?_
                        refine ES_yes (j := 21) (b := false) rfl rfl rfl hg204 rfl rfl (os_field rfl fl36_0) ?_
                        refine ES_yes (j := 21) (b := false) rfl rfl rfl hg204 rfl rfl (os_field rfl fl33_0) ?_
                        refine ES_yes (j := 21) (b := false) rfl rfl rfl hg204 rfl rfl (os_load_one rfl one22 (cells_own own_head rfl)) ?_
                        refine ES_yes (j := 21) (b := false) rfl rfl rfl hg204 rfl rfl (os_move rfl) ?_
                        refine ES_yes (j := 21) (b := false) rfl rfl rfl hg204 rfl rfl (os_eql rfl rfl) ?_
                        refine ES_yes (j := 21) (b := false) rfl rfl rfl hg204 rfl rfl (os_move rfl) ?_
                        refine ES_case (decide (((xm.Term : Nat) : Int) = ((xn.Term : Nat) : Int))) (fun hg213 => ?_) (fun hg213 => ?_)
                        · have hg213_ := hg213
                          try simp only [Bool.or_eq_true, Bool.and_eq_true, Bool.or_eq_false_iff, Bool.and_eq_false_iff, decide_eq_true_eq, decide_eq_false_iff_not, Bool.not_eq_true', Bool.not_eq_false', Int.natCast_inj, Int.ofNat_lt, Int.ofNat_le] at hg213_
                          refine ES_yes (j := 30) (b := true) rfl rfl rfl hg213 rfl rfl (os_move rfl) ?_
                          refine ES_yes (j := 30) (b := true) rfl rfl rfl hg213 rfl rfl (os_neq rfl rfl) ?_
                          refine ES_yes (j := 21) (b := false) rfl rfl rfl hg204 rfl rfl (os_pick_t' rfl hg213 rfl) ?_
                          refine ES_yes (j := 21) (b := false) rfl rfl rfl hg204 rfl rfl (os_move rfl) ?_
                          refine ES_case (!decide (xn.Vote = (-1))) (fun hg217 => ?_) (fun hg217 => ?_)
                          · have hg217_ := hg217
                            try simp only [Bool.or_eq_true, Bool.and_eq_true, Bool.or_eq_false_iff, Bool.and_eq_false_iff, decide_eq_true_eq, decide_eq_false_iff_not, Bool.not_eq_true', Bool.not_eq_false', Int.natCast_inj, Int.ofNat_lt, Int.ofNat_le] at hg217_
                            refine ES_yes (j := 34) (b := true) rfl rfl rfl hg217 rfl rfl (os_move rfl) ?_
                            refine ES_yes (j := 34) (b := true) rfl rfl rfl hg217 rfl rfl (os_nilCheck rfl) ?_
                            refine ES_yes (j := 34) (b := true) rfl rfl rfl hg217 rfl rfl (os_field rfl fl47_0) ?_
                            refine ES_yes (j := 34) (b := true) rfl rfl rfl hg217 rfl rfl (os_field rfl fl36_0) ?_
                            refine ES_yes (j := 34) (b := true) rfl rfl rfl hg217 rfl rfl (os_field rfl fl33_1) ?_
                            refine ES_yes (j := 34) (b := true) rfl rfl rfl hg217 rfl rfl (os_load_one rfl one3 (cells_own own_head rfl)) ?_
                            refine ES_yes (j := 34) (b := true) rfl rfl rfl hg217 rfl rfl (os_move rfl) ?_
                            refine ES_yes (j := 34) (b := true) rfl rfl rfl hg217 rfl rfl (os_neq rfl rfl) ?_
                            refine ES_yes (j := 21) (b := false) rfl rfl rfl hg204 rfl rfl (os_pick_t' rfl hg217 rfl) ?_
                            refine ES_s rfl rfl rfl (os_pick_f' rfl hg204 rfl) ?_
                            exact ES_fin 23 rfl rfl (by rw [hg204, hg213, hg217]; rfl)
                          · have hg217_ := hg217
                            try simp only [Bool.or_eq_true, Bool.and_eq_true, Bool.or_eq_false_iff, Bool.and_eq_false_iff, decide_eq_true_eq, decide_eq_false_iff_not, Bool.not_eq_true', Bool.not_eq_false', Int.natCast_inj, Int.ofNat_lt, Int.ofNat_le] at hg217_
                            refine ES_no rfl hg217 rfl rfl rfl rfl ?_
                            refine ES_no rfl hg217 rfl rfl rfl rfl ?_
                            refine ES_no rfl hg217 rfl rfl rfl rfl ?_
                            refine ES_no rfl hg217 rfl rfl rfl rfl ?_
                            refine ES_no rfl hg217 rfl rfl rfl rfl ?_
                            refine ES_no rfl hg217 rfl rfl rfl rfl ?_
                            refine ES_no rfl hg217 rfl rfl rfl rfl ?_
                            refine ES_no rfl hg217 rfl rfl rfl rfl ?_
                            refine ES_yes (j := 21) (b := false) rfl rfl rfl hg204 rfl rfl (os_pick_f' rfl hg217 rfl) ?_
                            refine ES_s rfl rfl rfl (os_pick_f' rfl hg204 rfl) ?_
                            exact ES_fin 23 rfl rfl (by rw [hg204, hg213, hg217]; rfl)
                        · have hg213_ := hg213
                          try simp only [Bool.or_eq_true, Bool.and_eq_true, Bool.or_eq_false_iff, Bool.and_eq_false_iff, decide_eq_true_eq, decide_eq_false_iff_not, Bool.not_eq_true', Bool.not_eq_false', Int.natCast_inj, Int.ofNat_lt, Int.ofNat_le] at hg213_
                          refine ES_no rfl hg213 rfl rfl rfl rfl ?_
                          refine ES_no rfl hg213 rfl rfl rfl rfl ?_
                          refine ES_yes (j := 21) (b := false) rfl rfl rfl hg204 rfl rfl (os_pick_f' rfl hg213 rfl) ?_
                          refine ES_yes (j := 21) (b := false) rfl rfl rfl hg204 rfl rfl (os_move rfl) ?_
                          refine ES_no rfl rfl rfl rfl rfl rfl ?_
                          refine ES_no rfl rfl rfl rfl rfl rfl ?_
                          refine ES_no rfl rfl rfl rfl rfl rfl ?_
                          refine ES_no rfl rfl rfl rfl rfl rfl ?_
                          refine ES_no rfl rfl rfl rfl rfl rfl ?_
                          refine ES_no rfl rfl rfl rfl rfl rfl ?_
                          refine ES_no rfl rfl rfl rfl rfl rfl ?_
                          refine ES_no rfl rfl rfl rfl rfl rfl ?_
                          refine ES_yes (j := 21) (b := false) rfl rfl rfl hg204 rfl rfl (os_pick_f rfl rfl) ?_
                          refine ES_s rfl rfl rfl (os_pick_f' rfl hg204 rfl) ?_
                          exact ES_fin 23 rfl rfl (by rw [hg204, hg213]; rfl)
                    refine EL_nil ?_
                    refine EQ_then (EQ_wp ?_)
                    refine EW_cond rfl (fun hc227 => ?_) (fun hc227 => ?_)
                    · have hb227 := hc227
                      try simp only [Bool.or_eq_true, Bool.and_eq_true, Bool.or_eq_false_iff, Bool.and_eq_false_iff, decide_eq_true_eq, decide_eq_false_iff_not, Bool.not_eq_true', Bool.not_eq_false', Int.natCast_inj, Int.ofNat_lt, Int.ofNat_le] at hc227
                      exfalso
                      rw [show formB y184.abs n = true by rw [hay184]; exact NodeP.good_form hg3] at hb227
                      have z2 : xn.Term ≤ xm.Term := hle.term
                      have z3 : xn.abs.commit ≤ xm.abs.commit := hle.com
                      have z4 : xm.Term = xn.Term → xn.Vote ≠ -1 → xm.Vote = xn.Vote := hle.vote
                      simp only [Bool.not_true, Bool.false_or, Bool.or_eq_true, Bool.and_eq_true, Bool.not_eq_true', decide_eq_true_eq, decide_eq_false_iff_not, Int.ofNat_lt, Int.natCast_inj] at hb227
                      rcases hb227 with (h | h) | h
                      · omega
                      · omega
                      · exact h.2 (z4 h.1.1 h.1.2)
                    · have hb227 := hc227
                      try simp only [Bool.or_eq_true, Bool.and_eq_true, Bool.or_eq_false_iff, Bool.and_eq_false_iff, decide_eq_true_eq, decide_eq_false_iff_not, Bool.not_eq_true', Bool.not_eq_false', Int.natCast_inj, Int.ofNat_lt, Int.ofNat_le] at hc227
                      refine EW_skip ?_
                      refine EQ_then (EQ_wp ?_)
                      refine EW_seq_cut (σ := Gh) (fun IC4 => [(0, (.int .i64 n)), (2, (notes.v)), (7, (.pointer (some ⟨b40, 0, none⟩))), (13, (.int .i64 ((k : Nat) : Int))), (19, (out.v))]) (fun IC4 => IC4) (fun IC4 => [(b40, .cells (xm.cells).toArray 47)] :: Sma :: Smb :: Smc :: Smd :: [(b14, .cells #[(.int .i64 y145.Kind), (.int .i64 y145.From), (.int .i64 y145.To), (.int .u64 ((y145.Term : Nat) : Int)), (.int .u64 ((y145.Index : Nat) : Int)), (.int .u64 ((y145.LogTerm : Nat) : Int)), (.int .u64 ((y145.Commit : Nat) : Int)), (es.v), (.bool y145.OK), (y145.Data.v)] 41)] :: [(b4, .cells #[(.int .u64 ((f.Term : Nat) : Int)), (.int .i64 f.Vote), (.int .u64 ((f.Base : Nat) : Int)), (.int .u64 ((f.BaseTerm : Nat) : Int)), (ts.v)] 25)] :: L0) (fun IC4 => I184.le IC4) ?_ ?_
                      · skip
                        refine EW_seq ?_
                        -- region 34 DRAWN  law.go:314
                        refine EW_drawC [] [⟨[], some 228, [18], .s, 0⟩, ⟨[0], some 229, [228], .s, 1⟩, ⟨[1], some 230, [7, 229], .s, 3⟩, ⟨[2, 1, 1], some 231, [230, 229], .g, 7⟩, ⟨[3, 1], some 232, [231, 229], .s, 15⟩, ⟨[4, 1], some 233, [232, 229], .s, 31⟩, ⟨[5, 3, 1], some 234, [233, 229], .s, 63⟩, ⟨[6], some 235, [7, 234], .s, 127⟩, ⟨[7, 6], some 236, [235, 234], .s, 255⟩, ⟨[8, 6], some 237, [236, 234], .s, 511⟩, ⟨[9, 6], some 238, [237, 234], .s, 1023⟩, ⟨[10, 6], some 239, [238, 234], .s, 2047⟩, ⟨[6], some 240, [14, 234], .s, 127⟩, ⟨[12, 6], some 241, [240, 234], .s, 4223⟩, ⟨[11, 13, 6], some 242, [239, 241, 234], .s, 16383⟩, ⟨[6, 14, 1], some 243, [234, 242, 229], .s, 32767⟩, ⟨[15, 6, 1], some 244, [243, 229], .s, 65535⟩, ⟨[16], some 245, [7, 244], .s, 131071⟩, ⟨[17, 16], some 246, [245, 244], .s, 262143⟩, ⟨[18, 16], some 247, [246, 244], .s, 524287⟩, ⟨[19, 16], some 248, [247, 244], .s, 1048575⟩, ⟨[20, 16], some 249, [248, 244], .s, 2097151⟩, ⟨[16], some 250, [14, 244], .s, 131071⟩, ⟨[22, 16], some 251, [250, 244], .s, 4325375⟩, ⟨[21, 23, 16], some 252, [249, 251, 244], .s, 16777215⟩, ⟨[16, 24, 1], some 253, [244, 252, 229], .s, 33554431⟩, ⟨[25, 16, 1], some 254, [253, 229], .s, 67108863⟩, ⟨[26], some 255, [7, 254], .s, 134217727⟩, ⟨[27, 26, 26], some 256, [255, 254], .s, 268435455⟩, ⟨[26], some 257, [14, 254], .s, 134217727⟩, ⟨[29, 26], some 258, [257, 254], .s, 671088639⟩, ⟨[28, 30, 26], some 259, [256, 258, 254], .s, 2147483647⟩, ⟨[26, 31, 1], some 260, [254, 259, 229], .s, 4294967295⟩, ⟨[1, 32], some 261, [229, 260], .s, 8589934591⟩] [.s, .s, .s, .g, .s, .s, .s, .s, .s, .s, .s, .s, .s, .s, .s, .s, .s, .s, .s, .s, .s, .s, .s, .s, .s, .s, .s, .s, .s, .s, .s, .s, .s, .s] [0, 1, 2, 3, 4, 5, 6, 7, 8, 9, 10, 11, 12, 13, 14, 15, 16, 17, 18, 19, 20, 21, 22, 23, 24, 25, 26, 27, 28, 29, 30, 31, 32, 33] mixed (by kernel_rfl) (by kernel_rfl) (by kernel_rfl) rfl rfl ?_
                        refine EP_s rfl rfl rfl rfl rfl (by exact (os_move rfl)) ?_
                        refine EP_s rfl rfl rfl rfl rfl (by exact (os_move rfl)) ?_
                        refine EP_split (t := 229) rfl (fun hc229 => ?_) (fun hc229 => ?_)
                        · try simp only [Bool.or_eq_true, Bool.and_eq_true, Bool.or_eq_false_iff, Bool.and_eq_false_iff, decide_eq_true_eq, decide_eq_false_iff_not, Bool.not_eq_true', Bool.not_eq_false', Int.natCast_inj, Int.ofNat_lt, Int.ofNat_le] at hc229
                          refine EP_s_yes rfl rfl rfl rfl rfl rfl rfl (by exact (os_move rfl)) ?_
                          refine EP_g_yes rfl rfl rfl rfl rfl rfl rfl (by exact (og_call (vs := [(.pointer (some ⟨b40, 0, none⟩)), (.int .u64 0)]) body22 rfl (n_From (NodeAt.intro xm (homa.mono hI184) (homb.mono hI184) (homc.mono hI184) (homd.mono hI184)) (incl_mid [] [_, _, _, _, _] _) 0 (by exact hfw)))) ?_
                          intro I231 v231 hI231 hv231
                          obtain ⟨y231, rfl, hy231, hay231⟩ := hv231
                          have hl232 := (show y231.h.n = y231.xs.length from FRow.len hy231)
                          refine EP_s_yes rfl rfl rfl rfl rfl rfl rfl (by exact (os_len rfl sl34)) ?_
                          refine EP_s_yes rfl rfl rfl rfl rfl rfl rfl (by exact (os_neq rfl rfl)) ?_
                          refine EP_s_yes rfl rfl rfl rfl rfl rfl rfl (by exact (os_move rfl)) ?_
                          refine EP_joint 9 243 (.bool ((!decide (((y231.h.n : Nat) : Int) = 0)) || (!decide (((xm.Base : Nat) : Int) = ((y145.Index : Nat) : Int))))) [7, 8, 9, 10, 11, 12, 13, 14, 15] rfl rfl rfl ?_ ?_
                          · skip
                            refine ES_case (!decide (((y231.h.n : Nat) : Int) = 0)) (fun hg234 => ?_) (fun hg234 => ?_)
                            · have hg234_ := hg234
                              try simp only [Bool.or_eq_true, Bool.and_eq_true, Bool.or_eq_false_iff, Bool.and_eq_false_iff, decide_eq_true_eq, decide_eq_false_iff_not, Bool.not_eq_true', Bool.not_eq_false', Int.natCast_inj, Int.ofNat_lt, Int.ofNat_le] at hg234_
                              refine ES_no rfl hg234 rfl rfl rfl rfl ?_
                              refine ES_no rfl hg234 rfl rfl rfl rfl ?_
                              refine ES_no rfl hg234 rfl rfl rfl rfl ?_
                              refine ES_no rfl hg234 rfl rfl rfl rfl ?_
                              refine ES_no rfl hg234 rfl rfl rfl rfl ?_
                              refine ES_no rfl hg234 rfl rfl rfl rfl ?_
                              refine ES_no rfl hg234 rfl rfl rfl rfl ?_
                              refine ES_no rfl hg234 rfl rfl rfl rfl ?_
                              refine ES_yes (j := 1) (b := true) rfl rfl rfl rfl rfl rfl (os_pick_t' rfl hg234 rfl) ?_
                              exact ES_fin 9 rfl rfl (by rw [hg234]; rfl)
                            · have hg234_ := hg234
                              try simp only [Bool.or_eq_true, Bool.and_eq_true, Bool.or_eq_false_iff, Bool.and_eq_false_iff, decide_eq_true_eq, decide_eq_false_iff_not, Bool.not_eq_true', Bool.not_eq_false', Int.natCast_inj, Int.ofNat_lt, Int.ofNat_le] at hg234_
                              refine ES_yes (j := 6) (b := false) rfl rfl rfl hg234 rfl rfl (os_move rfl) ?_
                              refine ES_yes (j := 6) (b := false) rfl rfl rfl hg234 rfl rfl (os_nilCheck rfl) ?_
                              refine ES_yes (j := 6) (b := false) rfl rfl rfl hg234 rfl rfl (os_field rfl fl47_0) ?_
                              refine ES_yes (j := 6) (b := false) rfl rfl rfl hg234 rfl rfl (os_field rfl fl36_1) ?_
                              refine ES_yes (j := 6) (b := false) rfl rfl rfl hg234 rfl rfl (os_load_one rfl one22 (cells_own own_head rfl)) ?_
                              refine ES_yes (j := 6) (b := false) rfl rfl rfl hg234 rfl rfl (os_field rfl fl41_4) ?_
                              refine ES_yes (j := 6) (b := false) rfl rfl rfl hg234 rfl rfl (os_load_one rfl one22 (cells_own (own_tail (own_tail (own_tail (own_tail (own_tail own_head))))) rfl)) ?_
                              refine ES_yes (j := 6) (b := false) rfl rfl rfl hg234 rfl rfl (os_neq rfl rfl) ?_
                              refine ES_yes (j := 1) (b := true) rfl rfl rfl rfl rfl rfl (os_pick_f' rfl hg234 rfl) ?_
                              exact ES_fin 9 rfl rfl (by rw [hg234]; rfl)
                          refine EP_s_yes rfl rfl rfl rfl rfl rfl rfl (by exact (os_move rfl)) ?_
                          refine EP_joint 9 253 (.bool (((!decide (((y231.h.n : Nat) : Int) = 0)) || (!decide (((xm.Base : Nat) : Int) = ((y145.Index : Nat) : Int)))) || (!decide (((xm.BaseTerm : Nat) : Int) = ((y145.LogTerm : Nat) : Int))))) [17, 18, 19, 20, 21, 22, 23, 24, 25] rfl rfl rfl ?_ ?_
                          · skip
                            refine ES_case ((!decide (((y231.h.n : Nat) : Int) = 0)) || (!decide (((xm.Base : Nat) : Int) = ((y145.Index : Nat) : Int)))) (fun hg244 => ?_) (fun hg244 => ?_)
                            · have hg244_ := hg244
                              try simp only [Bool.or_eq_true, Bool.and_eq_true, Bool.or_eq_false_iff, Bool.and_eq_false_iff, decide_eq_true_eq, decide_eq_false_iff_not, Bool.not_eq_true', Bool.not_eq_false', Int.natCast_inj, Int.ofNat_lt, Int.ofNat_le] at hg244_
                              refine ES_no rfl hg244 rfl rfl rfl rfl ?_
                              refine ES_no rfl hg244 rfl rfl rfl rfl ?_
                              refine ES_no rfl hg244 rfl rfl rfl rfl ?_
                              refine ES_no rfl hg244 rfl rfl rfl rfl ?_
                              refine ES_no rfl hg244 rfl rfl rfl rfl ?_
                              refine ES_no rfl hg244 rfl rfl rfl rfl ?_
                              refine ES_no rfl hg244 rfl rfl rfl rfl ?_
                              refine ES_no rfl hg244 rfl rfl rfl rfl ?_
                              refine ES_yes (j := 1) (b := true) rfl rfl rfl rfl rfl rfl (os_pick_t' rfl hg244 rfl) ?_
                              exact ES_fin 9 rfl rfl (by rw [hg244]; rfl)
                            · have hg244_ := hg244
                              try simp only [Bool.or_eq_true, Bool.and_eq_true, Bool.or_eq_false_iff, Bool.and_eq_false_iff, decide_eq_true_eq, decide_eq_false_iff_not, Bool.not_eq_true', Bool.not_eq_false', Int.natCast_inj, Int.ofNat_lt, Int.ofNat_le] at hg244_
                              refine ES_yes (j := 16) (b := false) rfl rfl rfl hg244 rfl rfl (os_move rfl) ?_
                              refine ES_yes (j := 16) (b := false) rfl rfl rfl hg244 rfl rfl (os_nilCheck rfl) ?_
                              refine ES_yes (j := 16) (b := false) rfl rfl rfl hg244 rfl rfl (os_field rfl fl47_0) ?_
                              refine ES_yes (j := 16) (b := false) rfl rfl rfl hg244 rfl rfl (os_field rfl fl36_2) ?_
                              refine ES_yes (j := 16) (b := false) rfl rfl rfl hg244 rfl rfl (os_load_one rfl one22 (cells_own own_head rfl)) ?_
                              refine ES_yes (j := 16) (b := false) rfl rfl rfl hg244 rfl rfl (os_field rfl fl41_5) ?_
                              refine ES_yes (j := 16) (b := false) rfl rfl rfl hg244 rfl rfl (os_load_one rfl one22 (cells_own (own_tail (own_tail (own_tail (own_tail (own_tail own_head))))) rfl)) ?_
                              refine ES_yes (j := 16) (b := false) rfl rfl rfl hg244 rfl rfl (os_neq rfl rfl) ?_
                              refine ES_yes (j := 1) (b := true) rfl rfl rfl rfl rfl rfl (os_pick_f' rfl hg244 rfl) ?_
                              exact ES_fin 9 rfl rfl (by rw [hg244]; rfl)
                          refine EP_s_yes rfl rfl rfl rfl rfl rfl rfl (by exact (os_move rfl)) ?_
                          refine EP_joint 6 260 (.bool ((((!decide (((y231.h.n : Nat) : Int) = 0)) || (!decide (((xm.Base : Nat) : Int) = ((y145.Index : Nat) : Int)))) || (!decide (((xm.BaseTerm : Nat) : Int) = ((y145.LogTerm : Nat) : Int)))) || (decide (((((xm.abs).commit) : Nat) : Int) < ((y145.Index : Nat) : Int))))) [27, 28, 29, 30, 31, 32] rfl rfl rfl ?_ ?_
                          · skip
                            refine ES_case (((!decide (((y231.h.n : Nat) : Int) = 0)) || (!decide (((xm.Base : Nat) : Int) = ((y145.Index : Nat) : Int)))) || (!decide (((xm.BaseTerm : Nat) : Int) = ((y145.LogTerm : Nat) : Int)))) (fun hg254 => ?_) (fun hg254 => ?_)
                            · have hg254_ := hg254
                              try simp only [Bool.or_eq_true, Bool.and_eq_true, Bool.or_eq_false_iff, Bool.and_eq_false_iff, decide_eq_true_eq, decide_eq_false_iff_not, Bool.not_eq_true', Bool.not_eq_false', Int.natCast_inj, Int.ofNat_lt, Int.ofNat_le] at hg254_
                              refine ES_no rfl hg254 rfl rfl rfl rfl ?_
                              refine ES_no rfl hg254 rfl rfl rfl rfl ?_
                              refine ES_no rfl hg254 rfl rfl rfl rfl ?_
                              refine ES_no rfl hg254 rfl rfl rfl rfl ?_
                              refine ES_no rfl hg254 rfl rfl rfl rfl ?_
                              refine ES_yes (j := 1) (b := true) rfl rfl rfl rfl rfl rfl (os_pick_t' rfl hg254 rfl) ?_
                              exact ES_fin 6 rfl rfl (by rw [hg254]; rfl)
                            · have hg254_ := hg254
                              try simp only [Bool.or_eq_true, Bool.and_eq_true, Bool.or_eq_false_iff, Bool.and_eq_false_iff, decide_eq_true_eq, decide_eq_false_iff_not, Bool.not_eq_true', Bool.not_eq_false', Int.natCast_inj, Int.ofNat_lt, Int.ofNat_le] at hg254_
                              refine ES_yes (j := 26) (b := false) rfl rfl rfl hg254 rfl rfl (os_move rfl) ?_
                              refine ES_yes (j := 26) (b := false) rfl rfl rfl hg254 rfl rfl (os_call (vs := [(.pointer (some ⟨b40, 0, none⟩))]) body15 rfl (n_Commit (NodeAt.intro xm (homa.mono (hI184.trans hI231)) (homb.mono (hI184.trans hI231)) (homc.mono (hI184.trans hI231)) (homd.mono (hI184.trans hI231))) (incl_mid [] [_, _, _, _, _] _))) ?_
                              refine ES_yes (j := 26) (b := false) rfl rfl rfl hg254 rfl rfl (os_field rfl fl41_4) ?_
                              refine ES_yes (j := 26) (b := false) rfl rfl rfl hg254 rfl rfl (os_load_one rfl one22 (cells_own (own_tail (own_tail (own_tail (own_tail (own_tail own_head))))) rfl)) ?_
                              refine ES_yes (j := 26) (b := false) rfl rfl rfl hg254 rfl rfl (os_lss rfl rfl) ?_
                              refine ES_yes (j := 1) (b := true) rfl rfl rfl rfl rfl rfl (os_pick_f' rfl hg254 rfl) ?_
                              exact ES_fin 6 rfl rfl (by rw [hg254]; rfl)
                          refine EP_s rfl rfl rfl rfl rfl (by exact (os_pick_t rfl rfl)) ?_
                          refine EP_nil ?_
                          refine EQ_then (EQ_wp ?_)
                          refine EW_cond rfl (fun hc261 => ?_) (fun hc261 => ?_)
                          · have hb261 := hc261
                            try simp only [Bool.or_eq_true, Bool.and_eq_true, Bool.or_eq_false_iff, Bool.and_eq_false_iff, decide_eq_true_eq, decide_eq_false_iff_not, Bool.not_eq_true', Bool.not_eq_false', Int.natCast_inj, Int.ofNat_lt, Int.ofNat_le] at hc261
                            exfalso
                            obtain ⟨w1, w2, w3, w4⟩ := hwant hc229
                            have w5 : y231.h.n = 0 := by rw [FRow.len hy231]; have hz := congrArg List.length hay231; rw [NodeP.from_zero, w1] at hz; simpa using hz
                            have w6 : xm.Base = y145.Index := w2
                            have w7 : xm.BaseTerm = y145.LogTerm := w3
                            omega
                          · have hb261 := hc261
                            try simp only [Bool.or_eq_true, Bool.and_eq_true, Bool.or_eq_false_iff, Bool.and_eq_false_iff, decide_eq_true_eq, decide_eq_false_iff_not, Bool.not_eq_true', Bool.not_eq_false', Int.natCast_inj, Int.ofNat_lt, Int.ofNat_le] at hc261
                            refine EW_skip ?_
                            refine EQ_cut (I231) ?_ ?_ ?_
                            · exact hI231
                            · exact ⟨rfl, rfl, rfl, rfl, rfl, trivial⟩
                            · exact fun w h => h.incl (Incl.cons (Incl.cons (Incl.cons (Incl.cons (Incl.cons (Incl.cons (Incl.cons (Incl.refl _) _) _) _) _) _) _) _)
                        · try simp only [Bool.or_eq_true, Bool.and_eq_true, Bool.or_eq_false_iff, Bool.and_eq_false_iff, decide_eq_true_eq, decide_eq_false_iff_not, Bool.not_eq_true', Bool.not_eq_false', Int.natCast_inj, Int.ofNat_lt, Int.ofNat_le] at hc229
                          refine EP_no rfl rfl rfl rfl rfl rfl rfl ?_
                          refine EP_no rfl rfl rfl rfl rfl rfl rfl ?_
                          refine EP_no rfl rfl rfl rfl rfl rfl rfl ?_
                          refine EP_no rfl rfl rfl rfl rfl rfl rfl ?_
                          refine EP_no rfl rfl rfl rfl rfl rfl rfl ?_
                          refine EP_nou rfl rfl rfl rfl rfl rfl ?_
                          refine EP_nou rfl rfl rfl rfl rfl rfl ?_
                          refine EP_nou rfl rfl rfl rfl rfl rfl ?_
                          refine EP_nou rfl rfl rfl rfl rfl rfl ?_
                          refine EP_nou rfl rfl rfl rfl rfl rfl ?_
                          refine EP_nou rfl rfl rfl rfl rfl rfl ?_
                          refine EP_nou rfl rfl rfl rfl rfl rfl ?_
                          refine EP_nou rfl rfl rfl rfl rfl rfl ?_
                          refine EP_no rfl rfl rfl rfl rfl rfl rfl ?_
                          refine EP_no rfl rfl rfl rfl rfl rfl rfl ?_
                          refine EP_nou rfl rfl rfl rfl rfl rfl ?_
                          refine EP_nou rfl rfl rfl rfl rfl rfl ?_
                          refine EP_nou rfl rfl rfl rfl rfl rfl ?_
                          refine EP_nou rfl rfl rfl rfl rfl rfl ?_
                          refine EP_nou rfl rfl rfl rfl rfl rfl ?_
                          refine EP_nou rfl rfl rfl rfl rfl rfl ?_
                          refine EP_nou rfl rfl rfl rfl rfl rfl ?_
                          refine EP_nou rfl rfl rfl rfl rfl rfl ?_
                          refine EP_no rfl rfl rfl rfl rfl rfl rfl ?_
                          refine EP_no rfl rfl rfl rfl rfl rfl rfl ?_
                          refine EP_nou rfl rfl rfl rfl rfl rfl ?_
                          refine EP_nou rfl rfl rfl rfl rfl rfl ?_
                          refine EP_nou rfl rfl rfl rfl rfl rfl ?_
                          refine EP_nou rfl rfl rfl rfl rfl rfl ?_
                          refine EP_nou rfl rfl rfl rfl rfl rfl ?_
                          refine EP_no rfl rfl rfl rfl rfl rfl rfl ?_
                          refine EP_s rfl rfl rfl rfl rfl (by exact (os_pick_f rfl rfl)) ?_
                          refine EP_nil ?_
                          refine EQ_then (EQ_wp ?_)
                          refine EW_false rfl ?_
                          refine EW_skip ?_
                          refine EQ_cut (I184) ?_ ?_ ?_
                          · exact (.refl _)
                          · exact ⟨rfl, rfl, rfl, rfl, rfl, trivial⟩
                          · exact fun w h => h.incl (Incl.cons (Incl.cons (Incl.cons (Incl.cons (Incl.cons (Incl.cons (Incl.cons (Incl.refl _) _) _) _) _) _) _) _)
                      · rintro IC4 hIC4
                        refine EW_seq ?_
                        refine EW_seq ?_
                        -- region 36  law.go:317
                        refine EW_region ?_
                        refine EL_s rfl rfl rfl (os_move rfl) ?_
                        have hl263 := (show out.h.n = out.xs.length from FRow.len hout)
                        refine EL_s rfl rfl rfl (os_len rfl sl49) ?_
                        refine EL_s rfl rfl rfl (os_move rfl) ?_
                        refine EL_nil ?_
                        refine EQ_then (EQ_wp ?_)
                        refine EW_block ?_
                        refine EW_loop (σ := Gh × Nat) (fun ⟨IJ2, j⟩ => [(0, (.int .i64 n)), (2, (notes.v)), (7, (.pointer (some ⟨b40, 0, none⟩))), (13, (.int .i64 ((k : Nat) : Int))), (262, (out.v)), (263, (.int .i64 ((out.h.n : Nat) : Int))), (264, (.int .i64 ((j : Nat) : Int)))]) (fun ⟨IJ2, j⟩ => IJ2) (fun ⟨IJ2, j⟩ => [(b40, .cells (xm.cells).toArray 47)] :: Sma :: Smb :: Smc :: Smd :: [(b14, .cells #[(.int .i64 y145.Kind), (.int .i64 y145.From), (.int .i64 y145.To), (.int .u64 ((y145.Term : Nat) : Int)), (.int .u64 ((y145.Index : Nat) : Int)), (.int .u64 ((y145.LogTerm : Nat) : Int)), (.int .u64 ((y145.Commit : Nat) : Int)), (es.v), (.bool y145.OK), (y145.Data.v)] 41)] :: [(b4, .cells #[(.int .u64 ((f.Term : Nat) : Int)), (.int .i64 f.Vote), (.int .u64 ((f.Base : Nat) : Int)), (.int .u64 ((f.BaseTerm : Nat) : Int)), (ts.v)] 25)] :: L0) (fun ⟨IJ2, j⟩ => IC4.le IJ2 ∧ j ≤ out.xs.length) (fun ⟨IJ2, j⟩ => out.xs.length - j) (IC4, 0) ⟨Gh.le.refl _, Nat.zero_le _⟩ ⟨rfl, rfl, rfl, rfl, rfl, rfl, rfl, trivial⟩ (fun w h => h) ?_
                        rintro ⟨IJ2, j⟩ ⟨hIJ2, hj⟩
                        refine EW_seq ?_
                        -- region 37  law.go:317
                        refine EW_region ?_
                        refine EL_s rfl rfl rfl (os_lss rfl rfl) ?_
                        refine EL_nil ?_
                        refine EQ_then (EQ_wp ?_)
                        refine EW_seq ?_
                        refine EW_cond rfl (fun hc265 => ?_) (fun hc265 => ?_)
                        · have hb265 := hc265
                          try simp only [Bool.or_eq_true, Bool.and_eq_true, Bool.or_eq_false_iff, Bool.and_eq_false_iff, decide_eq_true_eq, decide_eq_false_iff_not, Bool.not_eq_true', Bool.not_eq_false', Int.natCast_inj, Int.ofNat_lt, Int.ofNat_le] at hc265
                          refine EW_skip ?_
                          refine EQ_then (EQ_wp ?_)
                          refine EW_seq ?_
                          refine EW_block ?_
                          refine EW_seq ?_
                          -- region 38  law.go:317
                          refine EW_region ?_
                          have hl266 := (show out.h.n = out.xs.length from FRow.len hout)
                          obtain ⟨x266, hx266⟩ := get_some (l := out.xs) (k := j) (by first | omega | (simp only [List.length_set, List.length_replicate, List.length_cons, List.length_nil]; omega) | (simp <;> omega))
                          refine EL_s rfl rfl rfl (os_at (m := out.h.n) (j) rfl rfl (by omega) sl49 (by omega) (by have hz_ := FRow.some hout (by show 0 < out.h.n; omega); exact hz_)) ?_
                          have hk267 := FRow.okAt hout hx266
                          refine EL_s rfl rfl rfl (os_load_agg (cs := rMsg.cells x266) rfl agg41 (FRow.whole (FRow.mono hout (hI184.trans (hIC4.trans hIJ2)) (Incl.nil _)) hx266)) ?_
                          refine EL_a rfl rfl rfl (oa_alloc z41) ?_
                          intro b21
                          refine EL_u rfl rfl (ox_store rfl rfl sz41 rfl (by rfl) (.head .head)) ?_
                          refine EL_nil ?_
                          refine EQ_then (EQ_wp ?_)
                          refine EW_seq ?_
                          -- region 39 DRAWN  law.go:318
                          refine EW_drawC [] [⟨[], some 268, [21], .s, 0⟩, ⟨[0], some 269, [268], .s, 1⟩, ⟨[1], some 270, [269], .s, 3⟩, ⟨[2], some 271, [270], .s, 7⟩, ⟨[3], some 272, [21, 271], .s, 15⟩, ⟨[4, 3], some 273, [272, 271], .s, 31⟩, ⟨[5, 3], some 274, [273, 271], .s, 63⟩, ⟨[3, 6], some 275, [271, 274], .s, 127⟩, ⟨[7, 3], some 276, [275], .s, 255⟩, ⟨[8], some 277, [21, 276], .s, 511⟩, ⟨[9, 8], some 278, [277, 276], .s, 1023⟩, ⟨[8], some 279, [0, 276], .s, 511⟩, ⟨[10, 11, 8], some 280, [278, 279, 276], .s, 4095⟩, ⟨[8, 12], some 281, [276, 280], .s, 8191⟩, ⟨[13, 8], some 282, [281], .s, 16383⟩, ⟨[14], some 283, [21, 282], .s, 32767⟩, ⟨[15, 14], some 284, [283, 282], .s, 65535⟩, ⟨[16, 14], some 285, [284, 282], .s, 131071⟩, ⟨[14, 17], some 286, [282, 285], .s, 262143⟩, ⟨[18, 14], some 287, [286], .s, 524287⟩, ⟨[19], some 288, [21, 287], .s, 1048575⟩, ⟨[20, 19], some 289, [288, 287], .s, 2097151⟩, ⟨[21, 19], some 290, [289, 287], .s, 4194303⟩, ⟨[19, 22], some 291, [287, 290], .s, 8388607⟩, ⟨[23, 19], some 292, [291], .s, 16777215⟩, ⟨[24], some 293, [21, 292], .s, 33554431⟩, ⟨[25, 24], some 294, [293, 292], .s, 67108863⟩, ⟨[26, 24], some 295, [294, 292], .s, 134217727⟩, ⟨[27, 24, 24], some 296, [295, 292], .s, 268435455⟩, ⟨[28], some 297, [21, 296], .s, 536870911⟩, ⟨[29, 28], some 298, [297, 296], .s, 1073741823⟩, ⟨[28], some 299, [7, 296], .s, 536870911⟩, ⟨[31, 28], some 300, [299, 296], .s, 2684354559⟩, ⟨[32, 28], some 301, [300, 296], .s, 6979321855⟩, ⟨[33, 28], some 302, [301, 296], .s, 15569256447⟩, ⟨[34, 28], some 303, [302, 296], .s, 32749125631⟩, ⟨[35, 28], some 304, [303, 296], .s, 67108863999⟩, ⟨[36, 28], some 305, [304, 296], .s, 135828340735⟩, ⟨[30, 37, 28], some 306, [298, 305, 296], .s, 274877906943⟩, ⟨[28, 38, 24], some 307, [296, 306, 292], .s, 549755813887⟩, ⟨[24, 39], some 308, [292, 307], .s, 1099511627775⟩] [.s, .s, .s, .s, .s, .s, .s, .s, .s, .s, .s, .s, .s, .s, .s, .s, .s, .s, .s, .s, .s, .s, .s, .s, .s, .s, .s, .s, .s, .s, .s, .s, .s, .s, .s, .s, .s, .s, .s, .s, .s] [0, 1, 2, 3, 4, 5, 6, 7, 8, 9, 10, 11, 12, 13, 14, 15, 16, 17, 18, 19, 20, 21, 22, 23, 24, 25, 26, 27, 28, 29, 30, 31, 32, 33, 34, 35, 36, 37, 38, 39, 40] mixed (by kernel_rfl) (by kernel_rfl) (by kernel_rfl) rfl rfl ?_
                          refine EP_s rfl rfl rfl rfl rfl (by exact (os_field rfl fl41_1)) ?_
                          refine EP_s rfl rfl rfl rfl rfl (by exact (os_load_one rfl one3 (cells_own own_head rfl))) ?_
                          refine EP_s rfl rfl rfl rfl rfl (by exact (os_neq rfl rfl)) ?_
                          refine EP_s rfl rfl rfl rfl rfl (by exact (os_move rfl)) ?_
                          refine EP_joint 4 275 (.bool ((!decide (x266.From = 0)) || (decide (x266.To < 1)))) [4, 5, 6, 7] rfl rfl rfl ?_ ?_
                          · skip
                            refine ES_case (!decide (x266.From = 0)) (fun hg271 => ?_) (fun hg271 => ?_)
                            · have hg271_ := hg271
                              try simp only [Bool.or_eq_true, Bool.and_eq_true, Bool.or_eq_false_iff, Bool.and_eq_false_iff, decide_eq_true_eq, decide_eq_false_iff_not, Bool.not_eq_true', Bool.not_eq_false', Int.natCast_inj, Int.ofNat_lt, Int.ofNat_le] at hg271_
                              refine ES_no rfl hg271 rfl rfl rfl rfl ?_
                              refine ES_no rfl hg271 rfl rfl rfl rfl ?_
                              refine ES_no rfl hg271 rfl rfl rfl rfl ?_
                              refine ES_s rfl rfl rfl (os_pick_t' rfl hg271 rfl) ?_
                              exact ES_fin 4 rfl rfl (by rw [hg271]; rfl)
                            · have hg271_ := hg271
                              try simp only [Bool.or_eq_true, Bool.and_eq_true, Bool.or_eq_false_iff, Bool.and_eq_false_iff, decide_eq_true_eq, decide_eq_false_iff_not, Bool.not_eq_true', Bool.not_eq_false', Int.natCast_inj, Int.ofNat_lt, Int.ofNat_le] at hg271_
                              refine ES_yes (j := 3) (b := false) rfl rfl rfl hg271 rfl rfl (os_field rfl fl41_2) ?_
                              refine ES_yes (j := 3) (b := false) rfl rfl rfl hg271 rfl rfl (os_load_one rfl one3 (cells_own own_head rfl)) ?_
                              refine ES_yes (j := 3) (b := false) rfl rfl rfl hg271 rfl rfl (os_lss rfl rfl) ?_
                              refine ES_s rfl rfl rfl (os_pick_f' rfl hg271 rfl) ?_
                              exact ES_fin 4 rfl rfl (by rw [hg271]; rfl)
                          refine EP_s rfl rfl rfl rfl rfl (by exact (os_move rfl)) ?_
                          refine EP_joint 5 281 (.bool (((!decide (x266.From = 0)) || (decide (x266.To < 1))) || (decide (n ≤ x266.To)))) [9, 10, 11, 12, 13] rfl rfl rfl ?_ ?_
                          · skip
                            refine ES_case ((!decide (x266.From = 0)) || (decide (x266.To < 1))) (fun hg276 => ?_) (fun hg276 => ?_)
                            · have hg276_ := hg276
                              try simp only [Bool.or_eq_true, Bool.and_eq_true, Bool.or_eq_false_iff, Bool.and_eq_false_iff, decide_eq_true_eq, decide_eq_false_iff_not, Bool.not_eq_true', Bool.not_eq_false', Int.natCast_inj, Int.ofNat_lt, Int.ofNat_le] at hg276_
                              refine ES_no rfl hg276 rfl rfl rfl rfl ?_
                              refine ES_no rfl hg276 rfl rfl rfl rfl ?_
                              refine ES_no rfl hg276 rfl rfl rfl rfl ?_
                              refine ES_no rfl hg276 rfl rfl rfl rfl ?_
                              refine ES_s rfl rfl rfl (os_pick_t' rfl hg276 rfl) ?_
                              exact ES_fin 5 rfl rfl (by rw [hg276]; rfl)
                            · have hg276_ := hg276
                              try simp only [Bool.or_eq_true, Bool.and_eq_true, Bool.or_eq_false_iff, Bool.and_eq_false_iff, decide_eq_true_eq, decide_eq_false_iff_not, Bool.not_eq_true', Bool.not_eq_false', Int.natCast_inj, Int.ofNat_lt, Int.ofNat_le] at hg276_
                              refine ES_yes (j := 8) (b := false) rfl rfl rfl hg276 rfl rfl (os_field rfl fl41_2) ?_
                              refine ES_yes (j := 8) (b := false) rfl rfl rfl hg276 rfl rfl (os_load_one rfl one3 (cells_own own_head rfl)) ?_
                              refine ES_yes (j := 8) (b := false) rfl rfl rfl hg276 rfl rfl (os_move rfl) ?_
                              refine ES_yes (j := 8) (b := false) rfl rfl rfl hg276 rfl rfl (os_geq rfl rfl) ?_
                              refine ES_s rfl rfl rfl (os_pick_f' rfl hg276 rfl) ?_
                              exact ES_fin 5 rfl rfl (by rw [hg276]; rfl)
                          refine EP_s rfl rfl rfl rfl rfl (by exact (os_move rfl)) ?_
                          refine EP_joint 4 286 (.bool ((((!decide (x266.From = 0)) || (decide (x266.To < 1))) || (decide (n ≤ x266.To))) || (decide (x266.Kind < 1)))) [15, 16, 17, 18] rfl rfl rfl ?_ ?_
                          · skip
                            refine ES_case (((!decide (x266.From = 0)) || (decide (x266.To < 1))) || (decide (n ≤ x266.To))) (fun hg282 => ?_) (fun hg282 => ?_)
                            · have hg282_ := hg282
                              try simp only [Bool.or_eq_true, Bool.and_eq_true, Bool.or_eq_false_iff, Bool.and_eq_false_iff, decide_eq_true_eq, decide_eq_false_iff_not, Bool.not_eq_true', Bool.not_eq_false', Int.natCast_inj, Int.ofNat_lt, Int.ofNat_le] at hg282_
                              refine ES_no rfl hg282 rfl rfl rfl rfl ?_
                              refine ES_no rfl hg282 rfl rfl rfl rfl ?_
                              refine ES_no rfl hg282 rfl rfl rfl rfl ?_
                              refine ES_s rfl rfl rfl (os_pick_t' rfl hg282 rfl) ?_
                              exact ES_fin 4 rfl rfl (by rw [hg282]; rfl)
                            · have hg282_ := hg282
                              try simp only [Bool.or_eq_true, Bool.and_eq_true, Bool.or_eq_false_iff, Bool.and_eq_false_iff, decide_eq_true_eq, decide_eq_false_iff_not, Bool.not_eq_true', Bool.not_eq_false', Int.natCast_inj, Int.ofNat_lt, Int.ofNat_le] at hg282_
                              refine ES_yes (j := 14) (b := false) rfl rfl rfl hg282 rfl rfl (os_field rfl fl41_0) ?_
                              refine ES_yes (j := 14) (b := false) rfl rfl rfl hg282 rfl rfl (os_load_one rfl one3 (cells_own own_head rfl)) ?_
                              refine ES_yes (j := 14) (b := false) rfl rfl rfl hg282 rfl rfl (os_lss rfl rfl) ?_
                              refine ES_s rfl rfl rfl (os_pick_f' rfl hg282 rfl) ?_
                              exact ES_fin 4 rfl rfl (by rw [hg282]; rfl)
                          refine EP_s rfl rfl rfl rfl rfl (by exact (os_move rfl)) ?_
                          refine EP_joint 4 291 (.bool (((((!decide (x266.From = 0)) || (decide (x266.To < 1))) || (decide (n ≤ x266.To))) || (decide (x266.Kind < 1))) || (decide (7 < x266.Kind)))) [20, 21, 22, 23] rfl rfl rfl ?_ ?_
                          · skip
                            refine ES_case ((((!decide (x266.From = 0)) || (decide (x266.To < 1))) || (decide (n ≤ x266.To))) || (decide (x266.Kind < 1))) (fun hg287 => ?_) (fun hg287 => ?_)
                            · have hg287_ := hg287
                              try simp only [Bool.or_eq_true, Bool.and_eq_true, Bool.or_eq_false_iff, Bool.and_eq_false_iff, decide_eq_true_eq, decide_eq_false_iff_not, Bool.not_eq_true', Bool.not_eq_false', Int.natCast_inj, Int.ofNat_lt, Int.ofNat_le] at hg287_
                              refine ES_no rfl hg287 rfl rfl rfl rfl ?_
                              refine ES_no rfl hg287 rfl rfl rfl rfl ?_
                              refine ES_no rfl hg287 rfl rfl rfl rfl ?_
                              refine ES_s rfl rfl rfl (os_pick_t' rfl hg287 rfl) ?_
                              exact ES_fin 4 rfl rfl (by rw [hg287]; rfl)
                            · have hg287_ := hg287
                              try simp only [Bool.or_eq_true, Bool.and_eq_true, Bool.or_eq_false_iff, Bool.and_eq_false_iff, decide_eq_true_eq, decide_eq_false_iff_not, Bool.not_eq_true', Bool.not_eq_false', Int.natCast_inj, Int.ofNat_lt, Int.ofNat_le] at hg287_
                              refine ES_yes (j := 19) (b := false) rfl rfl rfl hg287 rfl rfl (os_field rfl fl41_0) ?_
                              refine ES_yes (j := 19) (b := false) rfl rfl rfl hg287 rfl rfl (os_load_one rfl one3 (cells_own own_head rfl)) ?_
                              refine ES_yes (j := 19) (b := false) rfl rfl rfl hg287 rfl rfl (os_gtr rfl rfl) ?_
                              refine ES_s rfl rfl rfl (os_pick_f' rfl hg287 rfl) ?_
                              exact ES_fin 4 rfl rfl (by rw [hg287]; rfl)
                          refine EP_s rfl rfl rfl rfl rfl (by exact (os_move rfl)) ?_
                          refine EP_joint 16 308 (.bool ((((((!decide (x266.From = 0)) || (decide (x266.To < 1))) || (decide (n ≤ x266.To))) || (decide (x266.Kind < 1))) || (decide (7 < x266.Kind))) || ((!decide (x266.Kind = 2)) && (decide ((((xm.Term + 1) : Nat) : Int) < ((x266.Term : Nat) : Int)))))) [25, 26, 27, 28, 29, 30, 31, 32, 33, 34, 35, 36, 37, 38, 39, 40] rfl rfl rfl ?_ ?_
                          · skip
                            refine ES_case (((((!decide (x266.From = 0)) || (decide (x266.To < 1))) || (decide (n ≤ x266.To))) || (decide (x266.Kind < 1))) || (decide (7 < x266.Kind))) (fun hg292 => ?_) (fun hg292 => ?_)
                            · have hg292_ := hg292
                              try simp only [Bool.or_eq_true, Bool.and_eq_true, Bool.or_eq_false_iff, Bool.and_eq_false_iff, decide_eq_true_eq, decide_eq_false_iff_not, Bool.not_eq_true', Bool.not_eq_false', Int.natCast_inj, Int.ofNat_lt, Int.ofNat_le] at hg292_
                              refine ES_no rfl hg292 rfl rfl rfl rfl ?_
                              refine ES_no rfl hg292 rfl rfl rfl rfl ?_
                              refine ES_no rfl hg292 rfl rfl rfl rfl ?_
                              refine ES_no rfl hg292 rfl rfl rfl rfl ?_
                              refine ES_nou rfl rfl rfl rfl rfl ?_
                              refine ES_nou rfl rfl rfl rfl rfl ?_
                              refine ES_nou rfl rfl rfl rfl rfl ?_
                              refine ES_nou rfl rfl rfl rfl rfl ?_
                              refine ES_nou rfl rfl rfl rfl rfl ?_
                              refine ES_nou rfl rfl rfl rfl rfl ?_
                              refine ES_nou rfl rfl rfl rfl rfl ?_
                              refine ES_nou rfl rfl rfl rfl rfl ?_
                              refine ES_nou rfl rfl rfl rfl rfl ?_
                              refine ES_nou rfl rfl rfl rfl rfl ?_
                              refine ES_no rfl hg292 rfl rfl rfl rfl ?_
                              refine ES_s rfl rfl rfl (os_pick_t' rfl hg292 rfl) ?_
                              exact ES_fin 16 rfl rfl (by rw [hg292]; rfl)
                            · have hg292_ := hg292
                              try simp only [Bool.or_eq_true, Bool.and_eq_true, Bool.or_eq_false_iff, Bool.and_eq_false_iff, decide_eq_true_eq, decide_eq_false_iff_not, Bool.not_eq_true', Bool.not_eq_false', Int.natCast_inj, Int.ofNat_lt, Int.ofNat_le] at hg292_
                              refine ES_yes (j := 24) (b := false) rfl rfl rfl hg292 rfl rfl (os_field rfl fl41_0) ?_
                              refine ES_yes (j := 24) (b := false) rfl rfl rfl hg292 rfl rfl (os_load_one rfl one3 (cells_own own_head rfl)) ?_
                              refine ES_yes (j := 24) (b := false) rfl rfl rfl hg292 rfl rfl (os_neq rfl rfl) ?_
                              refine ES_yes (j := 24) (b := false) rfl rfl rfl hg292 rfl rfl (os_move rfl) ?_
                              refine ES_case (!decide (x266.Kind = 2)) (fun hg296 => ?_) (fun hg296 => ?_)
                              · have hg296_ := hg296
                                try simp only [Bool.or_eq_true, Bool.and_eq_true, Bool.or_eq_false_iff, Bool.and_eq_false_iff, decide_eq_true_eq, decide_eq_false_iff_not, Bool.not_eq_true', Bool.not_eq_false', Int.natCast_inj, Int.ofNat_lt, Int.ofNat_le] at hg296_
                                refine ES_yes (j := 28) (b := true) rfl rfl rfl hg296 rfl rfl (os_field rfl fl41_3) ?_
                                refine ES_yes (j := 28) (b := true) rfl rfl rfl hg296 rfl rfl (os_load_one rfl one22 (cells_own own_head rfl)) ?_
                                refine ES_yes (j := 28) (b := true) rfl rfl rfl hg296 rfl rfl (os_move rfl) ?_
                                refine ES_yes (j := 28) (b := true) rfl rfl rfl hg296 rfl rfl (os_nilCheck rfl) ?_
                                refine ES_yes (j := 28) (b := true) rfl rfl rfl hg296 rfl rfl (os_field rfl fl47_0) ?_
                                refine ES_yes (j := 28) (b := true) rfl rfl rfl hg296 rfl rfl (os_field rfl fl36_0) ?_
                                refine ES_yes (j := 28) (b := true) rfl rfl rfl hg296 rfl rfl (os_field rfl fl33_0) ?_
                                refine ES_yes (j := 28) (b := true) rfl rfl rfl hg296 rfl rfl (os_load_one rfl one22 (cells_own (own_tail own_head) rfl)) ?_
                                refine ES_yes (j := 28) (b := true) rfl rfl rfl hg296 rfl rfl (os_addn (p := xm.Term) (q := 1) rfl rfl (IntWalk.u64_in _ (by omega))) ?_
                                refine ES_yes (j := 28) (b := true) rfl rfl rfl hg296 rfl rfl (os_gtr rfl rfl) ?_
                                refine ES_yes (j := 24) (b := false) rfl rfl rfl hg292 rfl rfl (os_pick_t' rfl hg296 rfl) ?_
                                refine ES_s rfl rfl rfl (os_pick_f' rfl hg292 rfl) ?_
                                exact ES_fin 16 rfl rfl (by rw [hg292, hg296]; rfl)
                              · have hg296_ := hg296
                                try simp only [Bool.or_eq_true, Bool.and_eq_true, Bool.or_eq_false_iff, Bool.and_eq_false_iff, decide_eq_true_eq, decide_eq_false_iff_not, Bool.not_eq_true', Bool.not_eq_false', Int.natCast_inj, Int.ofNat_lt, Int.ofNat_le] at hg296_
                                refine ES_no rfl hg296 rfl rfl rfl rfl ?_
                                refine ES_no rfl hg296 rfl rfl rfl rfl ?_
                                refine ES_no rfl hg296 rfl rfl rfl rfl ?_
                                refine ES_no rfl hg296 rfl rfl rfl rfl ?_
                                refine ES_no rfl hg296 rfl rfl rfl rfl ?_
                                refine ES_no rfl hg296 rfl rfl rfl rfl ?_
                                refine ES_no rfl hg296 rfl rfl rfl rfl ?_
                                refine ES_no rfl hg296 rfl rfl rfl rfl ?_
                                refine ES_no rfl hg296 rfl rfl rfl rfl ?_
                                refine ES_no rfl hg296 rfl rfl rfl rfl ?_
                                refine ES_yes (j := 24) (b := false) rfl rfl rfl hg292 rfl rfl (os_pick_f' rfl hg296 rfl) ?_
                                refine ES_s rfl rfl rfl (os_pick_f' rfl hg292 rfl) ?_
                                exact ES_fin 16 rfl rfl (by rw [hg292, hg296]; rfl)
                          refine EP_nil ?_
                          refine EQ_then (EQ_wp ?_)
                          refine EW_cond rfl (fun hc308 => ?_) (fun hc308 => ?_)
                          · have hb308 := hc308
                            try simp only [Bool.or_eq_true, Bool.and_eq_true, Bool.or_eq_false_iff, Bool.and_eq_false_iff, decide_eq_true_eq, decide_eq_false_iff_not, Bool.not_eq_true', Bool.not_eq_false', Int.natCast_inj, Int.ofNat_lt, Int.ofNat_le] at hc308
                            exfalso
                            have hz := hfine x266.abs (List.mem_map.2 ⟨x266, List.mem_of_getElem? hx266, rfl⟩)
                            have w1 : x266.From = 0 := hz.from_
                            have w2 : 1 ≤ x266.To := hz.to1
                            have w3 : x266.To < n := hz.ton
                            have w4 : 1 ≤ x266.Kind ∧ x266.Kind ≤ 7 := hz.kind
                            have w5 : x266.Kind ≠ 2 → x266.Term ≤ xm.Term + 1 := hz.term
                            rcases hc308 with h | h
                            · omega
                            · exact absurd (w5 h.1) (by omega)
                          · have hb308 := hc308
                            try simp only [Bool.or_eq_true, Bool.and_eq_true, Bool.or_eq_false_iff, Bool.and_eq_false_iff, decide_eq_true_eq, decide_eq_false_iff_not, Bool.not_eq_true', Bool.not_eq_false', Int.natCast_inj, Int.ofNat_lt, Int.ofNat_le] at hc308
                            refine EW_skip ?_
                            refine EQ_block_normal ?_
                            refine EQ_then (EQ_wp ?_)
                            -- region 41  law.go:317
                            refine EW_region ?_
                            refine EL_s rfl rfl rfl (os_addn (p := j) (q := 1) rfl rfl (IntWalk.i64_in _ (by omega))) ?_
                            refine EL_s rfl rfl rfl (os_move rfl) ?_
                            refine EL_nil ?_
                            refine EQ_round (IJ2, (j + 1)) ?_ ?_ ?_ ?_
                            · exact ⟨hIJ2, by omega⟩
                            · first | omega | (dsimp only; omega)
                            · exact ⟨rfl, rfl, rfl, rfl, rfl, rfl, rfl, trivial⟩
                            · exact fun w h => h.incl (Incl.skip (Incl.cons (Incl.cons (Incl.cons (Incl.cons (Incl.cons (Incl.cons (Incl.cons (Incl.refl _) _) _) _) _) _) _) _) _)
                        · have hb265 := hc265
                          try simp only [Bool.or_eq_true, Bool.and_eq_true, Bool.or_eq_false_iff, Bool.and_eq_false_iff, decide_eq_true_eq, decide_eq_false_iff_not, Bool.not_eq_true', Bool.not_eq_false', Int.natCast_inj, Int.ofNat_lt, Int.ofNat_le] at hc265
                          refine EW_exit ?_
                          refine EQ_then_exit (EQ_then_exit (EQ_block_exit (?_)))
                          refine EQ_then (EQ_wp ?_)
                          refine EW_seq ?_
                          -- region 42  law.go:322
                          refine EW_region ?_
                          refine EL_s rfl rfl rfl (os_move rfl) ?_
                          refine EL_s rfl rfl rfl (os_move rfl) ?_
                          refine EL_s rfl rfl rfl (os_call (vs := [(.pointer (some ⟨b40, 0, none⟩))]) body14 rfl (n_Last (NodeAt.intro xm (homa.mono (hI184.trans (hIC4.trans hIJ2))) (homb.mono (hI184.trans (hIC4.trans hIJ2))) (homc.mono (hI184.trans (hIC4.trans hIJ2))) (homd.mono (hI184.trans (hIC4.trans hIJ2)))) (incl_mid [] [_, _, _, _, _] _) (by exact hfw))) ?_
                          have hq313 : NodeP.last (xm.abs) = xm.Base + xm.Entries.xs.length := by simp [NodeP.last, Node.abs]
                          refine EL_s rfl rfl rfl (os_call (vs := [(.pointer (some ⟨b40, 0, none⟩)), (.int .u64 ((((xm.abs).last) : Nat) : Int))]) body23 rfl (n_TermAt (NodeAt.intro xm (homa.mono (hI184.trans (hIC4.trans hIJ2))) (homb.mono (hI184.trans (hIC4.trans hIJ2))) (homc.mono (hI184.trans (hIC4.trans hIJ2))) (homd.mono (hI184.trans (hIC4.trans hIJ2)))) (incl_mid [] [_, _, _, _, _] _) ((xm.abs).last) (by exact hfw))) ?_
                          refine EL_s rfl rfl rfl (os_move rfl) ?_
                          refine EL_s rfl rfl rfl (os_extract rfl rfl) ?_
                          refine EL_s rfl rfl rfl (os_extract rfl rfl) ?_
                          refine EL_s rfl rfl rfl (os_assign rfl) ?_
                          refine EL_s rfl rfl rfl (os_assign rfl) ?_
                          refine EL_nil ?_
                          refine EQ_then (EQ_wp ?_)
                          refine EW_seq ?_
                          -- region 43  law.go:323
                          refine EW_region ?_
                          refine EL_s rfl rfl rfl (os_move rfl) ?_
                          refine EL_s rfl rfl rfl (os_move rfl) ?_
                          refine EL_s rfl rfl rfl (os_call (vs := [(.pointer (some ⟨b40, 0, none⟩))]) body14 rfl (n_Last (NodeAt.intro xm (homa.mono (hI184.trans (hIC4.trans hIJ2))) (homb.mono (hI184.trans (hIC4.trans hIJ2))) (homc.mono (hI184.trans (hIC4.trans hIJ2))) (homd.mono (hI184.trans (hIC4.trans hIJ2)))) (incl_mid [] [_, _, _, _, _] _) (by exact hfw))) ?_
                          have hq320 : NodeP.last (xm.abs) = xm.Base + xm.Entries.xs.length := by simp [NodeP.last, Node.abs]
                          refine EL_s rfl rfl rfl (os_addn (p := ((xm.abs).last)) (q := 1) rfl rfl (IntWalk.u64_in _ (by omega))) ?_
                          refine EL_s rfl rfl rfl (os_call (vs := [(.pointer (some ⟨b40, 0, none⟩)), (.int .u64 (((((xm.abs).last) + 1) : Nat) : Int))]) body23 rfl (n_TermAt (NodeAt.intro xm (homa.mono (hI184.trans (hIC4.trans hIJ2))) (homb.mono (hI184.trans (hIC4.trans hIJ2))) (homc.mono (hI184.trans (hIC4.trans hIJ2))) (homd.mono (hI184.trans (hIC4.trans hIJ2)))) (incl_mid [] [_, _, _, _, _] _) (((xm.abs).last) + 1) (by exact hfw))) ?_
                          refine EL_s rfl rfl rfl (os_move rfl) ?_
                          refine EL_s rfl rfl rfl (os_extract rfl rfl) ?_
                          refine EL_s rfl rfl rfl (os_extract rfl rfl) ?_
                          refine EL_s rfl rfl rfl (os_assign rfl) ?_
                          refine EL_s rfl rfl rfl (os_assign rfl) ?_
                          refine EL_nil ?_
                          refine EQ_then (EQ_wp ?_)
                          refine EW_seq ?_
                          -- region 44 DRAWN  law.go:324
                          refine EW_drawC [] [⟨[], some 325, [23], .s, 0⟩, ⟨[0], some 326, [325], .s, 1⟩, ⟨[1], some 327, [326], .s, 3⟩, ⟨[2], some 328, [25, 327], .s, 7⟩, ⟨[2, 3], some 329, [327, 328], .s, 15⟩, ⟨[4, 2], some 330, [329], .s, 31⟩, ⟨[5], some 331, [22, 330], .s, 63⟩, ⟨[5], some 332, [7, 330], .s, 63⟩, ⟨[7, 5], some 333, [332, 330], .s, 191⟩, ⟨[8, 5], some 334, [333, 330], .s, 447⟩, ⟨[9, 5], some 335, [334, 330], .s, 959⟩, ⟨[10, 5], some 336, [335, 330], .s, 1983⟩, ⟨[11, 5], some 337, [336, 330], .s, 4031⟩, ⟨[6, 12, 5], some 338, [331, 337, 330], .s, 8191⟩, ⟨[5, 13], some 339, [330, 338], .s, 16383⟩, ⟨[14, 5], some 340, [339], .s, 32767⟩, ⟨[15], some 341, [7, 340], .s, 65535⟩, ⟨[15], some 342, [7, 340], .s, 65535⟩, ⟨[17, 15, 15], some 343, [342, 340], .s, 196607⟩, ⟨[18, 15], some 344, [343, 340], .s, 458751⟩, ⟨[16, 19, 18, 15], some 345, [341, 344, 340], .g, 1048575⟩, ⟨[20, 15], some 346, [345, 340], .s, 2097151⟩, ⟨[21, 15], some 347, [346, 340], .s, 4194303⟩, ⟨[15, 22], some 348, [340, 347], .s, 8388607⟩, ⟨[23, 20], some 349, [348], .s, 16777215⟩, ⟨[24], some 350, [7, 349], .s, 33554431⟩, ⟨[25, 24, 24], some 351, [350, 349], .g, 67108863⟩, ⟨[26, 24], some 352, [351, 349], .s, 134217727⟩, ⟨[27, 24], some 353, [352, 349], .s, 268435455⟩, ⟨[24], some 354, [7, 349], .s, 33554431⟩, ⟨[29, 26, 24], some 355, [354, 349], .s, 671088639⟩, ⟨[24], some 356, [7, 349], .s, 33554431⟩, ⟨[31, 24], some 357, [356, 349], .s, 2181038079⟩, ⟨[32, 24], some 358, [357, 349], .s, 6476005375⟩, ⟨[33, 24], some 359, [358, 349], .s, 15065939967⟩, ⟨[34, 24], some 360, [359, 349], .s, 32245809151⟩, ⟨[30, 35, 24], some 361, [355, 360, 349], .s, 68316823551⟩, ⟨[28, 36, 24], some 362, [353, 361, 349], .s, 137438953471⟩, ⟨[24, 37], some 363, [349, 362], .s, 274877906943⟩] [.s, .s, .s, .s, .s, .s, .s, .s, .s, .s, .s, .s, .s, .s, .s, .s, .s, .s, .s, .s, .g, .s, .s, .s, .s, .s, .g, .s, .s, .s, .s, .s, .s, .s, .s, .s, .s, .s, .s] [0, 1, 2, 3, 4, 5, 6, 7, 8, 9, 10, 11, 12, 13, 14, 15, 16, 17, 18, 19, 20, 21, 22, 23, 24, 25, 29, 31, 32, 33, 34, 35, 26, 27, 28, 30, 36, 37, 38] mixed (by kernel_rfl) (by kernel_rfl) (by kernel_rfl) rfl rfl ?_
                          refine EP_s rfl rfl rfl rfl rfl (by exact (os_move rfl)) ?_
                          refine EP_s rfl rfl rfl rfl rfl (by exact (os_not rfl)) ?_
                          refine EP_s rfl rfl rfl rfl rfl (by exact (os_move rfl)) ?_
                          refine EP_joint 2 329 (.bool ((!(((xm.abs).termAt ((xm.abs).last)).isSome)) || (((xm.abs).termAt (((xm.abs).last) + 1)).isSome))) [3, 4] rfl rfl rfl ?_ ?_
                          · skip
                            refine ES_case (!(((xm.abs).termAt ((xm.abs).last)).isSome)) (fun hg327 => ?_) (fun hg327 => ?_)
                            · have hg327_ := hg327
                              try simp only [Bool.or_eq_true, Bool.and_eq_true, Bool.or_eq_false_iff, Bool.and_eq_false_iff, decide_eq_true_eq, decide_eq_false_iff_not, Bool.not_eq_true', Bool.not_eq_false', Int.natCast_inj, Int.ofNat_lt, Int.ofNat_le] at hg327_
                              refine ES_no rfl hg327 rfl rfl rfl rfl ?_
                              refine ES_s rfl rfl rfl (os_pick_t' rfl hg327 rfl) ?_
                              exact ES_fin 2 rfl rfl (by rw [hg327]; rfl)
                            · have hg327_ := hg327
                              try simp only [Bool.or_eq_true, Bool.and_eq_true, Bool.or_eq_false_iff, Bool.and_eq_false_iff, decide_eq_true_eq, decide_eq_false_iff_not, Bool.not_eq_true', Bool.not_eq_false', Int.natCast_inj, Int.ofNat_lt, Int.ofNat_le] at hg327_
                              refine ES_yes (j := 2) (b := false) rfl rfl rfl hg327 rfl rfl (os_move rfl) ?_
                              refine ES_s rfl rfl rfl (os_pick_f' rfl hg327 rfl) ?_
                              exact ES_fin 2 rfl rfl (by rw [hg327]; rfl)
                          refine EP_s rfl rfl rfl rfl rfl (by exact (os_move rfl)) ?_
                          refine EP_joint 9 339 (.bool (((!(((xm.abs).termAt ((xm.abs).last)).isSome)) || (((xm.abs).termAt (((xm.abs).last) + 1)).isSome)) || (decide (((xm.Term : Nat) : Int) < (((((xm.abs).termAt ((xm.abs).last)).getD 0) : Nat) : Int))))) [6, 7, 8, 9, 10, 11, 12, 13, 14] rfl rfl rfl ?_ ?_
                          · skip
                            refine ES_case ((!(((xm.abs).termAt ((xm.abs).last)).isSome)) || (((xm.abs).termAt (((xm.abs).last) + 1)).isSome)) (fun hg330 => ?_) (fun hg330 => ?_)
                            · have hg330_ := hg330
                              try simp only [Bool.or_eq_true, Bool.and_eq_true, Bool.or_eq_false_iff, Bool.and_eq_false_iff, decide_eq_true_eq, decide_eq_false_iff_not, Bool.not_eq_true', Bool.not_eq_false', Int.natCast_inj, Int.ofNat_lt, Int.ofNat_le] at hg330_
                              refine ES_no rfl hg330 rfl rfl rfl rfl ?_
                              refine ES_no rfl hg330 rfl rfl rfl rfl ?_
                              refine ES_no rfl hg330 rfl rfl rfl rfl ?_
                              refine ES_no rfl hg330 rfl rfl rfl rfl ?_
                              refine ES_no rfl hg330 rfl rfl rfl rfl ?_
                              refine ES_no rfl hg330 rfl rfl rfl rfl ?_
                              refine ES_no rfl hg330 rfl rfl rfl rfl ?_
                              refine ES_no rfl hg330 rfl rfl rfl rfl ?_
                              refine ES_s rfl rfl rfl (os_pick_t' rfl hg330 rfl) ?_
                              exact ES_fin 9 rfl rfl (by rw [hg330]; rfl)
                            · have hg330_ := hg330
                              try simp only [Bool.or_eq_true, Bool.and_eq_true, Bool.or_eq_false_iff, Bool.and_eq_false_iff, decide_eq_true_eq, decide_eq_false_iff_not, Bool.not_eq_true', Bool.not_eq_false', Int.natCast_inj, Int.ofNat_lt, Int.ofNat_le] at hg330_
                              refine ES_yes (j := 5) (b := false) rfl rfl rfl hg330 rfl rfl (os_move rfl) ?_
                              refine ES_yes (j := 5) (b := false) rfl rfl rfl hg330 rfl rfl (os_move rfl) ?_
                              refine ES_yes (j := 5) (b := false) rfl rfl rfl hg330 rfl rfl (os_nilCheck rfl) ?_
                              refine ES_yes (j := 5) (b := false) rfl rfl rfl hg330 rfl rfl (os_field rfl fl47_0) ?_
                              refine ES_yes (j := 5) (b := false) rfl rfl rfl hg330 rfl rfl (os_field rfl fl36_0) ?_
                              refine ES_yes (j := 5) (b := false) rfl rfl rfl hg330 rfl rfl (os_field rfl fl33_0) ?_
                              refine ES_yes (j := 5) (b := false) rfl rfl rfl hg330 rfl rfl (os_load_one rfl one22 (cells_own own_head rfl)) ?_
                              refine ES_yes (j := 5) (b := false) rfl rfl rfl hg330 rfl rfl (os_gtr rfl rfl) ?_
                              refine ES_s rfl rfl rfl (os_pick_f' rfl hg330 rfl) ?_
                              exact ES_fin 9 rfl rfl (by rw [hg330]; rfl)
                          refine EP_s rfl rfl rfl rfl rfl (by exact (os_move rfl)) ?_
                          refine EP_split (t := 340) rfl (fun hc340 => ?_) (fun hc340 => ?_)
                          · try simp only [Bool.or_eq_true, Bool.and_eq_true, Bool.or_eq_false_iff, Bool.and_eq_false_iff, decide_eq_true_eq, decide_eq_false_iff_not, Bool.not_eq_true', Bool.not_eq_false', Int.natCast_inj, Int.ofNat_lt, Int.ofNat_le] at hc340
                            refine EP_no rfl rfl rfl rfl rfl rfl rfl ?_
                            refine EP_no rfl rfl rfl rfl rfl rfl rfl ?_
                            refine EP_no rfl rfl rfl rfl rfl rfl rfl ?_
                            refine EP_no rfl rfl rfl rfl rfl rfl rfl ?_
                            refine EP_no rfl rfl rfl rfl rfl rfl rfl ?_
                            refine EP_no rfl rfl rfl rfl rfl rfl rfl ?_
                            refine EP_no rfl rfl rfl rfl rfl rfl rfl ?_
                            refine EP_s rfl rfl rfl rfl rfl (by exact (os_pick_t rfl rfl)) ?_
                            refine EP_s rfl rfl rfl rfl rfl (by exact (os_move rfl)) ?_
                            refine EP_no rfl rfl rfl rfl rfl rfl rfl ?_
                            refine EP_no rfl rfl rfl rfl rfl rfl rfl ?_
                            refine EP_no rfl rfl rfl rfl rfl rfl rfl ?_
                            refine EP_no rfl rfl rfl rfl rfl rfl rfl ?_
                            refine EP_no rfl rfl rfl rfl rfl rfl rfl ?_
                            refine EP_no rfl rfl rfl rfl rfl rfl rfl ?_
                            refine EP_no rfl rfl rfl rfl rfl rfl rfl ?_
                            refine EP_no rfl rfl rfl rfl rfl rfl rfl ?_
                            refine EP_no rfl rfl rfl rfl rfl rfl rfl ?_
                            refine EP_no rfl rfl rfl rfl rfl rfl rfl ?_
                            refine EP_no rfl rfl rfl rfl rfl rfl rfl ?_
                            refine EP_no rfl rfl rfl rfl rfl rfl rfl ?_
                            refine EP_no rfl rfl rfl rfl rfl rfl rfl ?_
                            refine EP_s rfl rfl rfl rfl rfl (by exact (os_pick_t rfl rfl)) ?_
                            refine EP_nil ?_
                            refine EQ_then (EQ_wp ?_)
                            refine EW_true rfl ?_
                            refine EW_seq ?_
                            -- region 45  law.go:325
                            refine EW_region ?_
                            refine EL_s rfl rfl rfl (os_assign rfl) ?_
                            refine EL_nil ?_
                            refine EQ_then (EQ_wp ?_)
                            refine EW_ret ?_
                            refine EQ_block_ret (EQ_then_ret (EQ_then_ret (EQ_block_ret (EQ_then_ret (?_)))))
                            exfalso
                            obtain ⟨w1, w2⟩ := NodeP.termAt_end hg3
                            have w3 := NodeP.termAt_beyond xm.abs
                            have w4 : xm.abs.Term = xm.Term := rfl
                            rw [w3, w1] at hc340
                            simp at hc340
                            omega
                          · try simp only [Bool.or_eq_true, Bool.and_eq_true, Bool.or_eq_false_iff, Bool.and_eq_false_iff, decide_eq_true_eq, decide_eq_false_iff_not, Bool.not_eq_true', Bool.not_eq_false', Int.natCast_inj, Int.ofNat_lt, Int.ofNat_le] at hc340
                            refine EP_s_yes rfl rfl rfl rfl rfl rfl rfl (by exact (os_move rfl)) ?_
                            refine EP_s_yes rfl rfl rfl rfl rfl rfl rfl (by exact (os_move rfl)) ?_
                            refine EP_s_yes rfl rfl rfl rfl rfl rfl rfl (by exact (os_call (vs := [(.pointer (some ⟨b40, 0, none⟩))]) body14 rfl (n_Last (NodeAt.intro xm (homa.mono (hI184.trans (hIC4.trans hIJ2))) (homb.mono (hI184.trans (hIC4.trans hIJ2))) (homc.mono (hI184.trans (hIC4.trans hIJ2))) (homd.mono (hI184.trans (hIC4.trans hIJ2)))) (incl_mid [] [_, _, _, _, _] _) (by exact hfw)))) ?_
                            have hq343 : NodeP.last (xm.abs) = xm.Base + xm.Entries.xs.length := by simp [NodeP.last, Node.abs]
                            refine EP_s_yes rfl rfl rfl rfl rfl rfl rfl (by exact (os_addn (p := ((xm.abs).last)) (q := 1) rfl rfl (IntWalk.u64_in _ (by omega)))) ?_
                            refine EP_g_yes rfl rfl rfl rfl rfl rfl rfl (by exact (og_call (vs := [(.pointer (some ⟨b40, 0, none⟩)), (.int .u64 (((((xm.abs).last) + 1) : Nat) : Int))]) body22 rfl (n_From (NodeAt.intro xm (homa.mono (hI184.trans (hIC4.trans hIJ2))) (homb.mono (hI184.trans (hIC4.trans hIJ2))) (homc.mono (hI184.trans (hIC4.trans hIJ2))) (homd.mono (hI184.trans (hIC4.trans hIJ2)))) (incl_mid [] [_, _, _, _, _] _) (((xm.abs).last) + 1) (by exact hfw)))) ?_
                            intro I345 v345 hI345 hv345
                            obtain ⟨y345, rfl, hy345, hay345⟩ := hv345
                            have hl346 := (show y345.h.n = y345.xs.length from FRow.len hy345)
                            refine EP_s_yes rfl rfl rfl rfl rfl rfl rfl (by exact (os_len rfl sl34)) ?_
                            refine EP_s_yes rfl rfl rfl rfl rfl rfl rfl (by exact (os_neq rfl rfl)) ?_
                            refine EP_s rfl rfl rfl rfl rfl (by exact (os_pick_f rfl rfl)) ?_
                            refine EP_s rfl rfl rfl rfl rfl (by exact (os_move rfl)) ?_
                            refine EP_split (t := 349) rfl (fun hc349 => ?_) (fun hc349 => ?_)
                            · try simp only [Bool.or_eq_true, Bool.and_eq_true, Bool.or_eq_false_iff, Bool.and_eq_false_iff, decide_eq_true_eq, decide_eq_false_iff_not, Bool.not_eq_true', Bool.not_eq_false', Int.natCast_inj, Int.ofNat_lt, Int.ofNat_le] at hc349
                              refine EP_no rfl rfl rfl rfl rfl rfl rfl ?_
                              refine EP_no rfl rfl rfl rfl rfl rfl rfl ?_
                              refine EP_no rfl rfl rfl rfl rfl rfl rfl ?_
                              refine EP_no rfl rfl rfl rfl rfl rfl rfl ?_
                              refine EP_no rfl rfl rfl rfl rfl rfl rfl ?_
                              refine EP_no rfl rfl rfl rfl rfl rfl rfl ?_
                              refine EP_no rfl rfl rfl rfl rfl rfl rfl ?_
                              refine EP_no rfl rfl rfl rfl rfl rfl rfl ?_
                              refine EP_no rfl rfl rfl rfl rfl rfl rfl ?_
                              refine EP_no rfl rfl rfl rfl rfl rfl rfl ?_
                              refine EP_no rfl rfl rfl rfl rfl rfl rfl ?_
                              refine EP_no rfl rfl rfl rfl rfl rfl rfl ?_
                              refine EP_no rfl rfl rfl rfl rfl rfl rfl ?_
                              refine EP_s rfl rfl rfl rfl rfl (by exact (os_pick_t rfl rfl)) ?_
                              refine EP_nil ?_
                              refine EQ_then (EQ_wp ?_)
                              refine EW_true rfl ?_
                              refine EW_seq ?_
                              -- region 45  law.go:325
                              refine EW_region ?_
                              refine EL_s rfl rfl rfl (os_assign rfl) ?_
                              refine EL_nil ?_
                              refine EQ_then (EQ_wp ?_)
                              refine EW_ret ?_
                              refine EQ_block_ret (EQ_then_ret (EQ_then_ret (EQ_block_ret (EQ_then_ret (?_)))))
                              exfalso
                              rw [NodeP.from_beyond] at hay345
                              have hz := congrArg List.length hay345
                              simp only [List.length_map, List.length_nil] at hz
                              have w := FRow.len hy345
                              omega
                            · try simp only [Bool.or_eq_true, Bool.and_eq_true, Bool.or_eq_false_iff, Bool.and_eq_false_iff, decide_eq_true_eq, decide_eq_false_iff_not, Bool.not_eq_true', Bool.not_eq_false', Int.natCast_inj, Int.ofNat_lt, Int.ofNat_le] at hc349
                              refine EP_s_yes rfl rfl rfl rfl rfl rfl rfl (by exact (os_move rfl)) ?_
                              refine EP_s_yes rfl rfl rfl rfl rfl rfl rfl (by exact (os_move rfl)) ?_
                              refine EP_s_yes rfl rfl rfl rfl rfl rfl rfl (by exact (os_move rfl)) ?_
                              refine EP_s_yes rfl rfl rfl rfl rfl rfl rfl (by exact (os_nilCheck rfl)) ?_
                              refine EP_s_yes rfl rfl rfl rfl rfl rfl rfl (by exact (os_field rfl fl47_0)) ?_
                              refine EP_s_yes rfl rfl rfl rfl rfl rfl rfl (by exact (os_field rfl fl36_1)) ?_
                              refine EP_s_yes rfl rfl rfl rfl rfl rfl rfl (by exact (os_load_one rfl one22 (cells_own own_head rfl))) ?_
                              refine EP_g_yes rfl rfl rfl rfl rfl rfl rfl (by exact (og_call (vs := [(.pointer (some ⟨b40, 0, none⟩)), (.int .u64 0)]) body22 rfl (n_From (NodeAt.intro xm (homa.mono (hI184.trans (hIC4.trans (hIJ2.trans hI345)))) (homb.mono (hI184.trans (hIC4.trans (hIJ2.trans hI345)))) (homc.mono (hI184.trans (hIC4.trans (hIJ2.trans hI345)))) (homd.mono (hI184.trans (hIC4.trans (hIJ2.trans hI345))))) (incl_mid [] [_, _, _, _, _] _) 0 (by exact hfw)))) ?_
                              intro I351 v351 hI351 hv351
                              obtain ⟨y351, rfl, hy351, hay351⟩ := hv351
                              rw [NodeP.from_zero] at hay351
                              have hl351 : y351.h.n = xm.abs.Entries.length := by rw [FRow.len hy351]; have hz := congrArg List.length hay351; rw [List.length_map] at hz; exact hz
                              have hl352 := (show y351.h.n = y351.xs.length from FRow.len hy351)
                              refine EP_s_yes rfl rfl rfl rfl rfl rfl rfl (by exact (os_len rfl sl34)) ?_
                              refine EP_s_yes rfl rfl rfl rfl rfl rfl rfl (by exact (os_convn (p := y351.h.n) rfl ⟨_, int3⟩ int22 (IntWalk.u64_in _ (by omega)))) ?_
                              refine EP_s_yes rfl rfl rfl rfl rfl rfl rfl (by exact (os_call (vs := [(.pointer (some ⟨b40, 0, none⟩))]) body14 rfl (n_Last (NodeAt.intro xm (homa.mono (hI184.trans (hIC4.trans (hIJ2.trans (hI345.trans hI351))))) (homb.mono (hI184.trans (hIC4.trans (hIJ2.trans (hI345.trans hI351))))) (homc.mono (hI184.trans (hIC4.trans (hIJ2.trans (hI345.trans hI351))))) (homd.mono (hI184.trans (hIC4.trans (hIJ2.trans (hI345.trans hI351)))))) (incl_mid [] [_, _, _, _, _] _) (by exact hfw)))) ?_
                              have hq355 : NodeP.last (xm.abs) = xm.Base + xm.Entries.xs.length := by simp [NodeP.last, Node.abs]
                              refine EP_s_yes rfl rfl rfl rfl rfl rfl rfl (by exact (os_subn (p := ((xm.abs).last)) (q := xm.Base) rfl rfl (by omega) (IntWalk.u64_in _ (by omega)))) ?_
                              refine EP_s_yes rfl rfl rfl rfl rfl rfl rfl (by exact (os_neq rfl rfl)) ?_
                              refine EP_s rfl rfl rfl rfl rfl (by exact (os_pick_f rfl rfl)) ?_
                              refine EP_nil ?_
                              refine EQ_then (EQ_wp ?_)
                              refine EW_cond rfl (fun hc363 => ?_) (fun hc363 => ?_)
                              · have hb363 := hc363
                                try simp only [Bool.or_eq_true, Bool.and_eq_true, Bool.or_eq_false_iff, Bool.and_eq_false_iff, decide_eq_true_eq, decide_eq_false_iff_not, Bool.not_eq_true', Bool.not_eq_false', Int.natCast_inj, Int.ofNat_lt, Int.ofNat_le] at hc363
                                exfalso
                                omega
                              · have hb363 := hc363
                                try simp only [Bool.or_eq_true, Bool.and_eq_true, Bool.or_eq_false_iff, Bool.and_eq_false_iff, decide_eq_true_eq, decide_eq_false_iff_not, Bool.not_eq_true', Bool.not_eq_false', Int.natCast_inj, Int.ofNat_lt, Int.ofNat_le] at hc363
                                refine EW_skip ?_
                                refine EQ_block_normal ?_
                                refine EQ_then (EQ_wp ?_)
                                -- region 23  law.go:300
                                refine EW_region ?_
                                refine EL_s rfl rfl rfl (os_move rfl) ?_
                                refine EL_s rfl rfl rfl (os_addn (p := k) (q := 1) rfl rfl (IntWalk.i64_in _ (by omega))) ?_
                                refine EL_s rfl rfl rfl (os_assign rfl) ?_
                                refine EL_nil ?_
                                refine EQ_round (I351, (k + 1), xm, Sma, Smb, Smc, Smd) ?_ ?_ ?_ ?_
                                · exact ⟨(hIJ1.trans (hI145.trans (hI173.trans (hIC3.trans (hI184.trans (hIC4.trans (hIJ2.trans (hI345.trans hI351)))))))), ⟨by omega, (homa.mono (hI184.trans (hIC4.trans (hIJ2.trans (hI345.trans hI351))))), (homb.mono (hI184.trans (hIC4.trans (hIJ2.trans (hI345.trans hI351))))), (homc.mono (hI184.trans (hIC4.trans (hIJ2.trans (hI345.trans hI351))))), (homd.mono (hI184.trans (hIC4.trans (hIJ2.trans (hI345.trans hI351))))), hg3.more (by omega)⟩⟩
                                · first | omega | (dsimp only; omega)
                                · exact ⟨rfl, rfl, rfl, rfl, trivial⟩
                                · exact fun w h => h.incl (Incl.cons (Incl.cons (Incl.cons (Incl.cons (Incl.cons (Incl.skip (Incl.cons (Incl.refl _) _) _) _) _) _) _) _)
              · have hb138 := hc138
                try simp only [Bool.or_eq_true, Bool.and_eq_true, Bool.or_eq_false_iff, Bool.and_eq_false_iff, decide_eq_true_eq, decide_eq_false_iff_not, Bool.not_eq_true', Bool.not_eq_false', Int.natCast_inj, Int.ofNat_lt, Int.ofNat_le] at hc138
                refine EW_exit ?_
                refine EQ_then_exit (EQ_then_exit (EQ_block_exit (?_)))
                refine EQ_then (EQ_wp ?_)
                refine EW_seq ?_
                -- region 46  law.go:328
                refine EW_region ?_
                refine EL_s rfl rfl rfl (os_assign rfl) ?_
                refine EL_nil ?_
                refine EQ_then (EQ_wp ?_)
                refine EW_ret ?_
                exact pc_ret1 Try.results3 (rv_tmp rfl) (hI39.trans (hI40.trans hIJ1)) (((((((Incl.refl _).skip _).skip _).skip _).skip _).skip _).skip _) (by simp [*]) (.inl rfl)


end Go.Proofs.Ytlhibbjnhdcffaa
