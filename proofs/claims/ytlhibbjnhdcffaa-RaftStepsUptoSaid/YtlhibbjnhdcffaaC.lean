/- Proved here: the part C of the proof that the law of this seat returns true for every input; no condition. -/
import Derived.Test.YtlhibbjnhdcffaaB
set_option maxRecDepth 20000
set_option linter.unusedVariables false
set_option linter.unusedSimpArgs false
namespace Go.Proofs.Ytlhibbjnhdcffaa
open Go Go.Gl

theorem n_follow {I : Gh} {L : List Seg} {br : Nat} {r : NodeP} {Ssr : List Seg} (hr : NodeAt I br r Ssr) (term : Nat) (lead : Int) : PN Try.prog 109 #[.pointer (some ⟨br, 0, none⟩), .int .u64 ((term : Nat) : Int), .int .i64 lead] I L (Ssr) fun K Ss' v => NodeAt K br (r.follow term lead) Ss' ∧ v = .tuple #[] := by
  obtain ⟨xr, Sra, Srb, Src, Srd, rfl, rfl, hora, horb, horc, hord⟩ := hr
  refine PN.of (n := 27) Try.func109 rfl Try.ntmps109 rfl fun I0 L0 hI0 hL0 => ?_
  refine EW_perm (nm_5 _ _ _ _ _ _) ?_
  have hora := hora.mono hI0
  have horb := horb.mono hI0
  have horc := horc.mono hI0
  have hord := hord.mono hI0
  refine EW_seq ?_
  refine EW_seq ?_
  -- region 0  raft.go:148
  refine EW_region ?_
  refine EL_s rfl rfl rfl (os_move rfl) ?_
  refine EL_s rfl rfl rfl (os_move rfl) ?_
  refine EL_s rfl rfl rfl (os_nilCheck rfl) ?_
  refine EL_s rfl rfl rfl (os_field rfl fl47_0) ?_
  refine EL_s rfl rfl rfl (os_field rfl fl36_0) ?_
  refine EL_s rfl rfl rfl (os_field rfl fl33_0) ?_
  refine EL_s rfl rfl rfl (os_load_one rfl one22 (cells_own own_head rfl)) ?_
  refine EL_s rfl rfl rfl (os_gtr rfl rfl) ?_
  refine EL_nil ?_
  refine EQ_then (EQ_wp ?_)
  refine EW_cond rfl (fun hc13 => ?_) (fun hc13 => ?_)
  · have hb13 := hc13
    try simp only [Bool.or_eq_true, Bool.and_eq_true, Bool.or_eq_false_iff, Bool.and_eq_false_iff, decide_eq_true_eq, decide_eq_false_iff_not, Bool.not_eq_true', Bool.not_eq_false', Int.natCast_inj, Int.ofNat_lt, Int.ofNat_le] at hc13
    -- region 1  raft.go:149
    refine EW_region ?_
    refine EL_s rfl rfl rfl (os_move rfl) ?_
    refine EL_s rfl rfl rfl (os_move rfl) ?_
    refine EL_s rfl rfl rfl (os_struct (cs := [_, _]) [(0, _), (1, _)] pl33 z33 rfl rfl) ?_
    refine EL_s rfl rfl rfl (os_nilCheck rfl) ?_
    refine EL_s rfl rfl rfl (os_field rfl fl47_0) ?_
    refine EL_s rfl rfl rfl (os_field rfl fl36_0) ?_
    refine EL_u rfl rfl (ox_store rfl rfl sz33 rfl (by rfl) (.head .head)) ?_
    refine EL_nil ?_
    refine EQ_then (EQ_wp ?_)
    -- region 2  raft.go:151
    refine EW_region ?_
    refine EL_s rfl rfl rfl (os_move rfl) ?_
    refine EL_s rfl rfl rfl (os_move rfl) ?_
    refine EL_s rfl rfl rfl (os_move rfl) ?_
    refine EL_s rfl rfl rfl (os_nilCheck rfl) ?_
    refine EL_s rfl rfl rfl (os_field rfl fl47_4) ?_
    refine EL_u rfl rfl (ox_store rfl rfl sz3 rfl (by rfl) (.head .head)) ?_
    refine EL_s rfl rfl rfl (os_nilCheck rfl) ?_
    refine EL_s rfl rfl rfl (os_field rfl fl47_5) ?_
    refine EL_u rfl rfl (ox_store rfl rfl sz3 rfl (by rfl) (.head .head)) ?_
    refine EL_nil ?_
    exact pn_ret0 [_, _, _, _, _] Try.results109  (.refl _) (Incl.cons (Incl.cons (Incl.cons (Incl.cons (Incl.cons (Incl.refl _) _) _) _) _) _) ⟨(NodeAt.to (Node.mk term (-1) xr.Base xr.BaseTerm xr.Entries xr.id xr.n xr.limit 0 lead xr.commit xr.clock xr.votes xr.match_ xr.next) hora horb horc hord (by simp [NodeP.follow, Node.abs, *])), rfl⟩ (.inr rfl)
  · have hb13 := hc13
    try simp only [Bool.or_eq_true, Bool.and_eq_true, Bool.or_eq_false_iff, Bool.and_eq_false_iff, decide_eq_true_eq, decide_eq_false_iff_not, Bool.not_eq_true', Bool.not_eq_false', Int.natCast_inj, Int.ofNat_lt, Int.ofNat_le] at hc13
    refine EW_skip ?_
    refine EQ_then (EQ_wp ?_)
    -- region 2  raft.go:151
    refine EW_region ?_
    refine EL_s rfl rfl rfl (os_move rfl) ?_
    refine EL_s rfl rfl rfl (os_move rfl) ?_
    refine EL_s rfl rfl rfl (os_move rfl) ?_
    refine EL_s rfl rfl rfl (os_nilCheck rfl) ?_
    refine EL_s rfl rfl rfl (os_field rfl fl47_4) ?_
    refine EL_u rfl rfl (ox_store rfl rfl sz3 rfl (by rfl) (.head .head)) ?_
    refine EL_s rfl rfl rfl (os_nilCheck rfl) ?_
    refine EL_s rfl rfl rfl (os_field rfl fl47_5) ?_
    refine EL_u rfl rfl (ox_store rfl rfl sz3 rfl (by rfl) (.head .head)) ?_
    refine EL_nil ?_
    exact pn_ret0 [_, _, _, _, _] Try.results109  (.refl _) (Incl.cons (Incl.cons (Incl.cons (Incl.cons (Incl.cons (Incl.refl _) _) _) _) _) _) ⟨(NodeAt.to (Node.mk xr.Term xr.Vote xr.Base xr.BaseTerm xr.Entries xr.id xr.n xr.limit 0 lead xr.commit xr.clock xr.votes xr.match_ xr.next) hora horb horc hord (by simp [NodeP.follow, Node.abs, *])), rfl⟩ (.inr rfl)

theorem n_others {I : Gh} {L : List Seg} {br : Nat} {r : NodeP} {Ssr : List Seg} (hr : NodeAt I br r Ssr) (hSsr : Incl Ssr L) {f : FuncId} {fs cs : List Value} (hbf : bodyB Try.prog f) (F : Int → MsgP) (hF : ∀ k : Int, 0 ≤ k → k < r.n → PC Try.prog f (fs ++ [Value.int .i64 k] ++ cs).toArray I L fun K v => ∃ m : Msg, v = Value.agg m.cells.toArray ∧ m.Ok K ∧ m.abs = F k) (hp0 : NodeP.Few r) : PC Try.prog 73 #[.pointer (some ⟨br, 0, none⟩), .func (.func f) fs.toArray cs.toArray] I L fun K v => ∃ (y0 : Sl Msg), v = y0.v ∧ FRow rMsg K [] y0 ∧ y0.xs.map Msg.abs = r.others F := by
  obtain ⟨xr, Sra, Srb, Src, Srd, rfl, rfl, hora, horb, horc, hord⟩ := hr
  refine PC.of (n := 37) Try.func73 rfl Try.ntmps73 rfl fun I0 L0 hI0 hL0 => ?_
  have hora := hora.mono hI0
  have horb := horb.mono hI0
  have horc := horc.mono hI0
  have hord := hord.mono hI0
  have hLbr := hSsr.trans hL0
  have hf0 := hp0
  obtain ⟨hfb, hfl, hft, hid0, hidn, hn5, hlim0, hlim1, hclk0, hclk1, hbt, htrm, hcmt⟩ := hf0
  simp only [Node.abs, List.length_map] at hfb hfl hft hid0 hidn hn5 hlim0 hlim1 hclk0 hclk1 hbt htrm hcmt
  have hltm := NodeP.lastTerm_le hp0
  have hlast : NodeP.last xr.abs = xr.Base + xr.Entries.xs.length := by simp [NodeP.last, Node.abs]
  refine EW_seq ?_
  -- region 0  raft.go:155
  refine EW_region ?_
  refine EL_s rfl rfl rfl (os_assign rfl) ?_
  refine EL_nil ?_
  refine EQ_then (EQ_wp ?_)
  refine EW_seq ?_
  -- region 1  raft.go:156
  refine EW_region ?_
  refine EL_s rfl rfl rfl (os_assign rfl) ?_
  refine EL_nil ?_
  refine EQ_then (EQ_wp ?_)
  refine EW_seq ?_
  refine EW_seq ?_
  -- region 2  raft.go:157
  refine EW_region ?_
  refine EL_s rfl rfl rfl (os_move rfl) ?_
  refine EL_s rfl rfl rfl (os_nilCheck rfl) ?_
  refine EL_s rfl rfl rfl (os_field rfl fl47_2) ?_
  refine EL_s rfl rfl rfl (os_load_one rfl one3 (cells_own (hLbr.mem own_head) rfl)) ?_
  refine EL_s rfl rfl rfl (os_move rfl) ?_
  refine EL_nil ?_
  refine EQ_then (EQ_wp ?_)
  refine EW_block ?_
  refine EW_loop (σ := Gh × Nat × Seg × (Sl Msg)) (fun ⟨IJ0, k, S, o⟩ => [(0, (.pointer (some ⟨br, 0, none⟩))), (1, (.func (.func f) fs.toArray cs.toArray)), (5, (o.v)), (11, (.int .i64 xr.n)), (12, (.int .i64 ((k : Nat) : Int)))]) (fun ⟨IJ0, k, S, o⟩ => IJ0) (fun ⟨IJ0, k, S, o⟩ => S :: L0) (fun ⟨IJ0, k, S, o⟩ => I0.le IJ0 ∧ (k : Int) ≤ xr.n ∧ OwnR rMsg IJ0 41 o S ∧ o.xs.map Msg.abs = (((List.range k).filter fun (k : Nat) => !decide ((k : Int) = xr.id)).map fun (k : Nat) => { F (k : Int) with From := xr.id, To := (k : Int) }) ∧ o.xs.length ≤ k) (fun ⟨IJ0, k, S, o⟩ => (xr.n - k).toNat) (I0, 0, [], ⟨⟨none, 0, 0⟩, []⟩) ⟨Gh.le.refl _, ⟨by omega, OwnR.none _ _ _, rfl, Nat.zero_le _⟩⟩ ⟨rfl, rfl, rfl, rfl, rfl, trivial⟩ (fun w h => h.incl (Incl.of_nil (.refl _))) ?_
  rintro ⟨IJ0, k, S, o⟩ ⟨hIJ0, ⟨hk, ho, ha, hlo⟩⟩
  refine EW_seq ?_
  -- region 3  raft.go:157
  refine EW_region ?_
  refine EL_s rfl rfl rfl (os_lss rfl rfl) ?_
  refine EL_nil ?_
  refine EQ_then (EQ_wp ?_)
  refine EW_seq ?_
  refine EW_cond rfl (fun hc13 => ?_) (fun hc13 => ?_)
  · have hb13 := hc13
    try simp only [Bool.or_eq_true, Bool.and_eq_true, Bool.or_eq_false_iff, Bool.and_eq_false_iff, decide_eq_true_eq, decide_eq_false_iff_not, Bool.not_eq_true', Bool.not_eq_false', Int.natCast_inj, Int.ofNat_lt, Int.ofNat_le] at hc13
    refine EW_skip ?_
    refine EQ_then (EQ_wp ?_)
    refine EW_seq ?_
    refine EW_block ?_
    refine EW_seq ?_
    -- region 4  raft.go:157
    refine EW_region ?_
    refine EL_s rfl rfl rfl (os_move rfl) ?_
    refine EL_s rfl rfl rfl (os_assign rfl) ?_
    refine EL_nil ?_
    refine EQ_then (EQ_wp ?_)
    refine EW_seq ?_
    -- region 5  raft.go:158
    refine EW_region ?_
    refine EL_s rfl rfl rfl (os_move rfl) ?_
    refine EL_s rfl rfl rfl (os_move rfl) ?_
    refine EL_s rfl rfl rfl (os_nilCheck rfl) ?_
    refine EL_s rfl rfl rfl (os_field rfl fl47_1) ?_
    refine EL_s rfl rfl rfl (os_load_one rfl one3 (cells_own (own_tail (hLbr.mem own_head)) rfl)) ?_
    refine EL_s rfl rfl rfl (os_neq rfl rfl) ?_
    refine EL_nil ?_
    refine EQ_then (EQ_wp ?_)
    refine EW_cond rfl (fun hc20 => ?_) (fun hc20 => ?_)
    · have hb20 := hc20
      try simp only [Bool.or_eq_true, Bool.and_eq_true, Bool.or_eq_false_iff, Bool.and_eq_false_iff, decide_eq_true_eq, decide_eq_false_iff_not, Bool.not_eq_true', Bool.not_eq_false', Int.natCast_inj, Int.ofNat_lt, Int.ofNat_le] at hc20
      refine EW_seq ?_
      -- region 6  raft.go:159
      refine EW_region ?_
      refine EL_s rfl rfl rfl (os_move rfl) ?_
      refine EL_s rfl rfl rfl (os_move rfl) ?_
      have hF1 := hF (k : Int) (by omega) (by show (k : Int) < xr.n; omega)
      refine EL_g rfl rfl rfl (og_callv (fs := fs) (vs := [Value.int .i64 ((k : Nat) : Int)]) (cs := cs) rfl hbf rfl (hF1.le (hI0.trans hIJ0) (hL0.trans ((Incl.refl _).skip _)))) ?_
      intro I23 v23 hI23 hv23
      obtain ⟨y23, rfl, hy23, hay23⟩ := hv23
      refine EL_a rfl rfl rfl (oa_alloc z41) ?_
      intro b7
      refine EL_u rfl rfl (ox_store rfl rfl sz41 rfl (by rfl) (.head .head)) ?_
      refine EL_nil ?_
      refine EQ_then (EQ_wp ?_)
      refine EW_seq ?_
      -- region 7  raft.go:160
      refine EW_region ?_
      refine EL_s rfl rfl rfl (os_move rfl) ?_
      refine EL_s rfl rfl rfl (os_nilCheck rfl) ?_
      refine EL_s rfl rfl rfl (os_field rfl fl47_1) ?_
      refine EL_s rfl rfl rfl (os_load_one rfl one3 (cells_own (own_tail (own_tail (hLbr.mem own_head))) rfl)) ?_
      refine EL_s rfl rfl rfl (os_move rfl) ?_
      refine EL_s rfl rfl rfl (os_field rfl fl41_1) ?_
      refine EL_u rfl rfl (ox_store rfl rfl sz3 rfl (by rfl) (.head .head)) ?_
      refine EL_s rfl rfl rfl (os_field rfl fl41_2) ?_
      refine EL_u rfl rfl (ox_store rfl rfl sz3 rfl (by rfl) (.head .head)) ?_
      refine EL_nil ?_
      refine EQ_then (EQ_wp ?_)
      -- region 8  raft.go:161
      refine EW_region ?_
      refine EL_s rfl rfl rfl (os_move rfl) ?_
      refine EL_s rfl rfl rfl (os_load_agg (cs := [_, _, _, _, _, _, _, _, _, _]) rfl agg41 (cells_own own_head rfl)) ?_
      have hr_y33_0 : Msg.Ok I23 (Msg.mk y23.Kind xr.id ((k : Nat) : Int) y23.Term y23.Index y23.LogTerm y23.Commit y23.Entries y23.OK y23.Data) := ⟨hy23.Kind, (by first | omega | (dsimp only; omega)), (by first | omega | (dsimp only; omega)), hy23.Term, hy23.Index, hy23.LogTerm, hy23.Commit, (FRow.mono hy23.Entries (.refl _) (.refl _)), (FRow.mono hy23.Data (.refl _) (.refl _))⟩
      refine EL_a rfl rfl rfl (oa_slice [_] sl49 z41 rfl rfl rfl rfl) ?_
      intro b33
      have hob33 : OwnR rMsg I23 41 (Sl.mk (Hd.mk (some ⟨b33, 0, none⟩) 1 1) [(Msg.mk y23.Kind xr.id ((k : Nat) : Int) y23.Term y23.Index y23.LogTerm y23.Commit y23.Entries y23.OK y23.Data)]) [(b33, .cells _ 41)] := OwnR.lit rfl rfl (by unfold maxLen; omega) (by decide) (fun x hx => by simp only [List.mem_cons, List.not_mem_nil, or_false] at hx; rcases hx with rfl <;> first | exact hr_y33_0)
      refine EL_y rfl rfl rfl (ox_app (R := rMsg) (bytes := 112) (s := o) (s' := (Sl.mk (Hd.mk (some ⟨b33, 0, none⟩) 1 1) [(Msg.mk y23.Kind xr.id ((k : Nat) : Int) y23.Term y23.Index y23.LogTerm y23.Commit y23.Entries y23.OK y23.Data)])) 10 rfl rfl rfl rfl sl49 z41 rfl (ho.mono hI23) (bk_2 _ _ _ _) (OwnR.frow hob33 fun x hx => .inr (own_seg hx)) (by first | omega | (simp only [List.length_cons, List.length_nil, Nat.zero_add]; omega)) (by unfold maxLen; first | omega | (simp only [List.length_cons, List.length_nil, Nat.zero_add]; omega))) ?_
      rintro L34 v34 ⟨s34, S34, rfl, rfl, hx34, ho34⟩
      refine EL_perm (bk_2 _ _ _ _) ?_
      refine EL_s rfl rfl rfl (os_assign rfl) ?_
      refine EL_nil ?_
      refine EQ_block_normal ?_
      refine EQ_then (EQ_wp ?_)
      -- region 9  raft.go:157
      refine EW_region ?_
      refine EL_s rfl rfl rfl (os_addn (p := k) (q := 1) rfl rfl (IntWalk.i64_in _ (by omega))) ?_
      refine EL_s rfl rfl rfl (os_move rfl) ?_
      refine EL_nil ?_
      refine EQ_round (I23, (k + 1), S34, s34) ?_ ?_ ?_ ?_
      · exact ⟨(hIJ0.trans hI23), ⟨by omega, ho34, by rw [hx34, List.map_append, ha, List.range_succ, List.filter_append, List.map_append]; simp only [List.filter_cons, List.filter_nil]; rw [if_pos (by simpa using hc20)]; simp [Msg.abs, ← hay23], by rw [hx34]; simp; omega⟩⟩
      · first | omega | (dsimp only; omega)
      · exact ⟨rfl, rfl, rfl, rfl, rfl, trivial⟩
      · exact fun w h => h.incl (Incl.skip (Incl.skip (Incl.cons (Incl.refl _) _) _) _)
    · have hb20 := hc20
      try simp only [Bool.or_eq_true, Bool.and_eq_true, Bool.or_eq_false_iff, Bool.and_eq_false_iff, decide_eq_true_eq, decide_eq_false_iff_not, Bool.not_eq_true', Bool.not_eq_false', Int.natCast_inj, Int.ofNat_lt, Int.ofNat_le] at hc20
      refine EW_skip ?_
      refine EQ_block_normal ?_
      refine EQ_then (EQ_wp ?_)
      -- region 9  raft.go:157
      refine EW_region ?_
      refine EL_s rfl rfl rfl (os_addn (p := k) (q := 1) rfl rfl (IntWalk.i64_in _ (by omega))) ?_
      refine EL_s rfl rfl rfl (os_move rfl) ?_
      refine EL_nil ?_
      refine EQ_round (IJ0, (k + 1), S, o) ?_ ?_ ?_ ?_
      · exact ⟨hIJ0, ⟨by omega, ho, by rw [ha, List.range_succ, List.filter_append]; simp only [List.filter_cons, List.filter_nil]; rw [if_neg (by simpa using hc20)]; simp, by omega⟩⟩
      · first | omega | (dsimp only; omega)
      · exact ⟨rfl, rfl, rfl, rfl, rfl, trivial⟩
      · exact fun w h => h.incl (Incl.cons (Incl.refl _) _)
  · have hb13 := hc13
    try simp only [Bool.or_eq_true, Bool.and_eq_true, Bool.or_eq_false_iff, Bool.and_eq_false_iff, decide_eq_true_eq, decide_eq_false_iff_not, Bool.not_eq_true', Bool.not_eq_false', Int.natCast_inj, Int.ofNat_lt, Int.ofNat_le] at hc13
    refine EW_exit ?_
    refine EQ_then_exit (EQ_then_exit (EQ_block_exit (?_)))
    refine EQ_then (EQ_wp ?_)
    refine EW_seq ?_
    -- region 10  raft.go:164
    refine EW_region ?_
    refine EL_s rfl rfl rfl (os_move rfl) ?_
    refine EL_s rfl rfl rfl (os_assign rfl) ?_
    refine EL_nil ?_
    refine EQ_then (EQ_wp ?_)
    refine EW_ret ?_
    refine EQ_freeze (.refl _) (fun Iz1_0 hIz1_0 hfz1_0 => ?_)
    have hzz1_0 : FRow rMsg Iz1_0 [] o := OwnR.frow (ho.mono hIz1_0) fun x hx => .inl (hfz1_0 x hx)
    exact pc_ret1 Try.results73 (rv_tmp rfl) (hIJ0.trans hIz1_0) (Incl.refl _) ⟨o, rfl, (FRow.mono hzz1_0 (.refl _) (.refl _)), (by rw [ha, NodeP.others, show k = xr.abs.n.toNat by simp only [Node.abs]; omega]; rfl)⟩ (.inl rfl)

theorem n_call1 {I : Gh} {L : List Seg} (to : Int) {b1 : Nat} (kind : Int) (h1 : Cells I L ⟨b1, 0, none⟩ [.int .i64 kind]) {b2 : Nat} (term : Nat) (h2 : Cells I L ⟨b2, 0, none⟩ [.int .u64 ((term : Nat) : Int)]) {br : Nat} {r : NodeP} {Ssr : List Seg} (hr : NodeAt I br r Ssr) (hSsr : Incl Ssr L) {b3 : Nat} (h3 : Cells I L ⟨b3, 0, none⟩ [.pointer (some ⟨br, 0, none⟩)]) (hkind : -9223372036854775808 ≤ kind ∧ kind ≤ 9223372036854775807) (hterm : term ≤ 18446744073709551615) (hp0 : r.Few) : PC Try.prog 115 #[.int .i64 to, .pointer (some ⟨b1, 0, none⟩), .pointer (some ⟨b2, 0, none⟩), .pointer (some ⟨b3, 0, none⟩)] I L fun K v => ∃ (y0 : Msg), v = .agg (y0.cells).toArray ∧ Msg.Ok K y0 ∧ y0.abs = r.ask kind term := by
  obtain ⟨xr, Sra, Srb, Src, Srd, rfl, rfl, hora, horb, horc, hord⟩ := hr
  refine PC.of (n := 13) Try.func115 rfl Try.ntmps115 rfl fun I0 L0 hI0 hL0 => ?_
  have h1 := Cells.mono h1 hI0 hL0
  have h2 := Cells.mono h2 hI0 hL0
  have h3 := Cells.mono h3 hI0 hL0
  have hora := hora.mono hI0
  have horb := horb.mono hI0
  have horc := horc.mono hI0
  have hord := hord.mono hI0
  have hLbr := hSsr.trans hL0
  have hf0 := hp0
  obtain ⟨hfb, hfl, hft, hid0, hidn, hn5, hlim0, hlim1, hclk0, hclk1, hbt, htrm, hcmt⟩ := hf0
  simp only [Node.abs, List.length_map] at hfb hfl hft hid0 hidn hn5 hlim0 hlim1 hclk0 hclk1 hbt htrm hcmt
  have hltm := NodeP.lastTerm_le hp0
  have hlast : NodeP.last xr.abs = xr.Base + xr.Entries.xs.length := by simp [NodeP.last, Node.abs]
  refine EW_seq ?_
  -- region 0  raft.go:171
  refine EW_region ?_
  refine EL_a rfl rfl rfl (oa_alloc z41) ?_
  intro b5
  refine EL_nil ?_
  refine EQ_then (EQ_wp ?_)
  refine EW_seq ?_
  -- region 1 DRAWN  raft.go:171
  refine EW_drawC [] [⟨[], some 6, [1], .s, 0⟩, ⟨[], some 7, [2], .s, 0⟩, ⟨[], some 8, [3], .s, 0⟩, ⟨[2], some 9, [8], .s, 4⟩, ⟨[], some 10, [3], .s, 0⟩, ⟨[4, 3], some 11, [10], .s, 28⟩, ⟨[0, 1, 3, 5], some 12, [6, 7, 9, 11], .s, 63⟩, ⟨[6, 5, 0, 1, 2, 3, 4, 5, 6], none, [5, 12], .x, 127⟩] [.s, .s, .s, .s, .s, .s, .s, .x] [0, 1, 2, 3, 4, 5, 6, 7] mixed (by kernel_rfl) (by kernel_rfl) (by kernel_rfl) rfl rfl ?_
  refine EP_s rfl rfl rfl rfl rfl (by exact (os_load_one rfl one3 (Cells.mono h1 (.refl _) ((Incl.refl _).skip _)))) ?_
  refine EP_s rfl rfl rfl rfl rfl (by exact (os_load_one rfl one22 (Cells.mono h2 (.refl _) ((Incl.refl _).skip _)))) ?_
  refine EP_s rfl rfl rfl rfl rfl (by exact (os_load_one rfl one28 (Cells.mono h3 (.refl _) ((Incl.refl _).skip _)))) ?_
  refine EP_s rfl rfl rfl rfl rfl (by exact (os_call (vs := [(.pointer (some ⟨br, 0, none⟩))]) body14 rfl (n_Last (NodeAt.intro xr hora horb horc hord) (hLbr.skip _) (by assumption)))) ?_
  have hq9 : NodeP.last (xr.abs) = xr.Base + xr.Entries.xs.length := by simp [NodeP.last, Node.abs]
  refine EP_s rfl rfl rfl rfl rfl (by exact (os_load_one rfl one28 (Cells.mono h3 (.refl _) ((Incl.refl _).skip _)))) ?_
  refine EP_s rfl rfl rfl rfl rfl (by exact (os_call (vs := [(.pointer (some ⟨br, 0, none⟩))]) body108 rfl (n_lastTerm (NodeAt.intro xr hora horb horc hord) (hLbr.skip _) (by assumption)))) ?_
  refine EP_s rfl rfl rfl rfl rfl (by exact (os_struct (cs := [_, _, _, _, _, _, _, _, _, _]) [(0, _), (3, _), (4, _), (5, _)] pl41 z41 rfl rfl)) ?_
  refine EP_u rfl rfl rfl rfl (by exact (ox_store rfl rfl sz41 rfl (by rfl) (.head .head))) ?_
  refine EP_nil ?_
  refine EQ_then (EQ_wp ?_)
  refine EW_ret ?_
  have hr_ret1 : Msg.Ok I0 (Msg.mk kind 0 0 term ((xr.abs).last) ((xr.abs).lastTerm) 0 (Sl.mk (Hd.mk none 0 0) []) false (Sl.mk (Hd.mk none 0 0) [])) := ⟨(by first | omega | (dsimp only; omega)), (by first | omega | (dsimp only; omega)), (by first | omega | (dsimp only; omega)), (by first | omega | (dsimp only; omega)), (by first | omega | (dsimp only; omega)), (by first | omega | (dsimp only; omega)), (by first | omega | (dsimp only; omega)), (FRow.none _ _ _), (FRow.none _ _ _)⟩
  exact pc_ret1 Try.results115 (rv_agg (cs := [(.int .i64 kind), (.int .i64 0), (.int .i64 0), (.int .u64 ((term : Nat) : Int)), (.int .u64 ((((xr.abs).last) : Nat) : Int)), (.int .u64 ((((xr.abs).lastTerm) : Nat) : Int)), (.int .u64 0), (.slice none 0 0), (.bool false), (.slice none 0 0)]) rfl agg41 (cells_own own_head rfl)) (.refl _) ((Incl.refl _).skip _) ⟨(Msg.mk kind 0 0 term ((xr.abs).last) ((xr.abs).lastTerm) 0 (Sl.mk (Hd.mk none 0 0) []) false (Sl.mk (Hd.mk none 0 0) [])), rfl, hr_ret1, (by simp [NodeP.ask, Msg.abs])⟩ (.inl rfl)

theorem n_call {I : Gh} {L : List Seg} {br : Nat} {r : NodeP} {Ssr : List Seg} (hr : NodeAt I br r Ssr) (kind : Int) (term : Nat) (hp0 : NodeP.Few r) (hp1 : -9223372036854775808 ≤ kind ∧ kind ≤ 9223372036854775807) (hp2 : term ≤ 18446744073709551615) : PN Try.prog 76 #[.pointer (some ⟨br, 0, none⟩), .int .i64 kind, .int .u64 ((term : Nat) : Int)] I L (Ssr) fun K Ss' v => NodeAt K br ((r.call kind term).1) Ss' ∧ (∃ (y0 : Sl Msg), v = y0.v ∧ FRow rMsg K [] y0 ∧ y0.xs.map Msg.abs = (r.call kind term).2) := by
  obtain ⟨xr, Sra, Srb, Src, Srd, rfl, rfl, hora, horb, horc, hord⟩ := hr
  refine PN.of (n := 27) Try.func76 rfl Try.ntmps76 rfl fun I0 L0 hI0 hL0 => ?_
  refine EW_perm (nm_5 _ _ _ _ _ _) ?_
  have hora := hora.mono hI0
  have horb := horb.mono hI0
  have horc := horc.mono hI0
  have hord := hord.mono hI0
  have hf0 := hp0
  obtain ⟨hfb, hfl, hft, hid0, hidn, hn5, hlim0, hlim1, hclk0, hclk1, hbt, htrm, hcmt⟩ := hf0
  simp only [Node.abs, List.length_map] at hfb hfl hft hid0 hidn hn5 hlim0 hlim1 hclk0 hclk1 hbt htrm hcmt
  have hltm := NodeP.lastTerm_le hp0
  have hlast : NodeP.last xr.abs = xr.Base + xr.Entries.xs.length := by simp [NodeP.last, Node.abs]
  refine EW_seq ?_
  -- region 0  raft.go:168
  refine EW_region ?_
  refine EL_a rfl rfl rfl (oa_box rfl) ?_
  intro b3
  refine EL_a rfl rfl rfl (oa_box rfl) ?_
  intro b4
  refine EL_a rfl rfl rfl (oa_box rfl) ?_
  intro b5
  refine EL_s rfl rfl rfl (os_assign rfl) ?_
  refine EL_nil ?_
  refine EQ_then (EQ_wp ?_)
  refine EW_seq ?_
  -- region 1 DRAWN  raft.go:169
  refine EW_drawC [] [⟨[], some 7, [3], .s, 0⟩, ⟨[], some 8, [3], .s, 0⟩, ⟨[1], some 9, [8], .s, 2⟩, ⟨[2], some 10, [9], .s, 6⟩, ⟨[3], some 11, [10], .s, 14⟩, ⟨[4, 4], some 12, [11, 11], .a, 30⟩, ⟨[0, 0, 1, 2, 3, 4, 5], some 13, [7], .s, 63⟩, ⟨[6, 0, 1, 2, 3, 4, 5], some 14, [13], .s, 127⟩, ⟨[7, 5, 0, 1, 2, 3, 4, 5], none, [14, 12], .x, 255⟩] [.s, .s, .s, .s, .s, .a, .s, .s, .x] [0, 1, 2, 3, 4, 5, 6, 7, 8] mixed (by kernel_rfl) (by kernel_rfl) (by kernel_rfl) rfl rfl ?_
  refine EP_s rfl rfl rfl rfl rfl (by exact (os_load_one rfl one28 (cells_own (own_tail (own_tail own_head)) rfl))) ?_
  refine EP_s rfl rfl rfl rfl rfl (by exact (os_load_one rfl one28 (cells_own (own_tail (own_tail own_head)) rfl))) ?_
  refine EP_s rfl rfl rfl rfl rfl (by exact (os_nilCheck rfl)) ?_
  refine EP_s rfl rfl rfl rfl rfl (by exact (os_field rfl fl47_2)) ?_
  refine EP_s rfl rfl rfl rfl rfl (by exact (os_load_one rfl one3 (cells_own (own_tail (own_tail (own_tail own_head))) rfl))) ?_
  refine EP_a rfl rfl rfl rfl rfl (by exact (oa_makeSlice ((xr.n).toNat) rfl rfl (by omega) sl45 z4 (by omega) (by unfold maxLen; omega))) ?_
  intro b12
  have hob12 : OwnR rBool I0 4 (Sl.mk (Hd.mk (some ⟨b12, 0, none⟩) ((xr.n).toNat) ((xr.n).toNat)) (List.replicate ((xr.n).toNat) false)) [(b12, .cells (madeCells (Value.cells (.bool false)) (((xr.n).toNat) * 1)) 4)] := OwnR.made (z := (.bool false)) false rfl (by simp [rBool]) (by unfold maxLen; omega) (by simp only [rBool]; omega)
  refine EP_s rfl rfl rfl rfl rfl (by exact (os_nilCheck rfl)) ?_
  refine EP_s rfl rfl rfl rfl rfl (by exact (os_field rfl fl47_8)) ?_
  refine EP_u rfl rfl rfl rfl (by exact (ox_store rfl rfl sz45 rfl (by rfl) (.tail (.tail (.tail (.tail (.head .head))))))) ?_
  refine EP_nil ?_
  refine EQ_then (EQ_wp ?_)
  refine EW_seq ?_
  -- region 2 DRAWN  raft.go:170
  refine EW_drawC [] [⟨[], some 15, [3], .s, 0⟩, ⟨[0], some 16, [15], .s, 1⟩, ⟨[1], some 17, [16], .s, 3⟩, ⟨[2], some 18, [17], .s, 7⟩, ⟨[], some 19, [3], .s, 0⟩, ⟨[4], some 20, [19], .s, 16⟩, ⟨[5], some 21, [20], .s, 48⟩, ⟨[6], some 22, [21], .s, 112⟩, ⟨[3, 7, 0, 1, 2, 3, 4, 5, 6, 7], some 23, [18, 22], .s, 255⟩, ⟨[8, 0, 1, 2, 3, 4, 5, 6, 7], none, [23], .x, 511⟩] [.s, .s, .s, .s, .s, .s, .s, .s, .s, .x] [0, 1, 2, 3, 4, 5, 6, 7, 8, 9] mixed (by kernel_rfl) (by kernel_rfl) (by kernel_rfl) rfl rfl ?_
  refine EP_s rfl rfl rfl rfl rfl (by exact (os_load_one rfl one28 (cells_own (own_tail (own_tail (own_tail own_head))) rfl))) ?_
  refine EP_s rfl rfl rfl rfl rfl (by exact (os_nilCheck rfl)) ?_
  refine EP_s rfl rfl rfl rfl rfl (by exact (os_field rfl fl47_8)) ?_
  refine EP_s rfl rfl rfl rfl rfl (by exact (os_load_one rfl one45 (cells_own (own_tail (own_tail (own_tail (own_tail own_head)))) rfl))) ?_
  refine EP_s rfl rfl rfl rfl rfl (by exact (os_load_one rfl one28 (cells_own (own_tail (own_tail (own_tail own_head))) rfl))) ?_
  refine EP_s rfl rfl rfl rfl rfl (by exact (os_nilCheck rfl)) ?_
  refine EP_s rfl rfl rfl rfl rfl (by exact (os_field rfl fl47_1)) ?_
  refine EP_s rfl rfl rfl rfl rfl (by exact (os_load_one rfl one3 (cells_own (own_tail (own_tail (own_tail (own_tail own_head)))) rfl))) ?_
  have hl23 := (show ((xr.n).toNat) = (List.replicate ((xr.n).toNat) false).length from OwnR.len hob12)
  obtain ⟨x23, hx23⟩ := get_some (l := (List.replicate ((xr.n).toNat) false)) (k := (xr.id).toNat) (by first | omega | (simp only [List.length_set, List.length_replicate, List.length_cons, List.length_nil]; omega) | (simp <;> omega))
  refine EP_s rfl rfl rfl rfl rfl (by exact (os_at (m := ((xr.n).toNat)) ((xr.id).toNat) rfl rfl (by omega) sl45 (by omega) (by have hz_ := OwnR.some hob12 (by show 0 < ((xr.n).toNat); omega); exact hz_))) ?_
  refine EP_z rfl rfl rfl rfl (by exact (ox_set true rfl rfl sz4 rfl hob12 (by first | omega | (simp only [List.length_set, List.length_replicate, List.length_cons, List.length_nil]; omega) | (simp <;> omega)) trivial (List.Perm.refl _))) ?_
  rintro L2_9 v2_9 ⟨S2_9, rfl, ho2_9⟩
  have ho2_9 : OwnR rBool I0 4 (Sl.mk (Hd.mk (some ⟨b12, 0, none⟩) ((xr.n).toNat) ((xr.n).toNat)) ((List.replicate ((xr.n).toNat) false).set ((xr.id).toNat) true)) S2_9 := ho2_9
  refine EP_nil ?_
  refine EQ_then (EQ_wp ?_)
  refine EW_seq ?_
  -- region 3  raft.go:171
  refine EW_region ?_
  refine EL_s rfl rfl rfl (os_load_one rfl one28 (cells_own (own_tail (own_tail (own_tail own_head))) rfl)) ?_
  refine EL_s rfl rfl rfl (os_makeFunc (us := []) (vs := [_, _, _]) rfl rfl) ?_
  refine EL_perm (mv_8 _ _ _ _ _ _ _ _ _ _) ?_
  refine EL_perm (mv_8 _ _ _ _ _ _ _ _ _ _) ?_
  refine EL_perm (mv_2 _ _ _ _) ?_
  refine EL_perm (mv_7 _ _ _ _ _ _ _ _ _) ?_
  refine EL_perm (mv_7 _ _ _ _ _ _ _ _ _) ?_
  refine EL_g rfl rfl rfl (og_call (vs := [(.pointer (some ⟨br, 0, none⟩)), _]) body73 rfl (n_others (NodeAt.intro (Node.mk xr.Term xr.Vote xr.Base xr.BaseTerm xr.Entries xr.id xr.n xr.limit xr.role xr.lead xr.commit xr.clock (Sl.mk (Hd.mk (some ⟨b12, 0, none⟩) ((xr.n).toNat) ((xr.n).toNat)) ((List.replicate ((xr.n).toNat) false).set ((xr.id).toNat) true)) xr.match_ xr.next) hora ho2_9 horc hord) (incl_mid [] [_, _, _, _, _] _) body115 (fun _ => NodeP.ask (Node.abs (Node.mk xr.Term xr.Vote xr.Base xr.BaseTerm xr.Entries xr.id xr.n xr.limit xr.role xr.lead xr.commit xr.clock (Sl.mk (Hd.mk (some ⟨b12, 0, none⟩) ((xr.n).toNat) ((xr.n).toNat)) ((List.replicate ((xr.n).toNat) false).set ((xr.id).toNat) true)) xr.match_ xr.next)) kind term) (fun k _ _ => n_call1 k kind (cells_own (own_tail (own_tail (own_tail (own_tail (own_tail (own_tail own_head)))))) rfl) term (cells_own (own_tail (own_tail (own_tail (own_tail (own_tail own_head))))) rfl) (NodeAt.intro (Node.mk xr.Term xr.Vote xr.Base xr.BaseTerm xr.Entries xr.id xr.n xr.limit xr.role xr.lead xr.commit xr.clock (Sl.mk (Hd.mk (some ⟨b12, 0, none⟩) ((xr.n).toNat) ((xr.n).toNat)) ((List.replicate ((xr.n).toNat) false).set ((xr.id).toNat) true)) xr.match_ xr.next) hora ho2_9 horc hord) (incl_mid [] [_, _, _, _, _] _) (cells_own (own_tail (own_tail (own_tail (own_tail (own_tail (own_tail (own_tail own_head))))))) rfl) hp1 hp2 ⟨hp0.base, hp0.len, hp0.term, hp0.id0, hp0.idn, hp0.n5, hp0.lim0, hp0.lim1, hp0.clk0, hp0.clk1, hp0.bt, hp0.trm, hp0.cmt⟩) (by exact ⟨hp0.base, hp0.len, hp0.term, hp0.id0, hp0.idn, hp0.n5, hp0.lim0, hp0.lim1, hp0.clk0, hp0.clk1, hp0.bt, hp0.trm, hp0.cmt⟩))) ?_
  intro I26 v26 hI26 hv26
  obtain ⟨y26, rfl, hy26, hay26⟩ := hv26
  refine EL_s rfl rfl rfl (os_assign rfl) ?_
  refine EL_nil ?_
  refine EQ_then (EQ_wp ?_)
  refine EW_ret ?_
  exact pn_ret1 [_, _, _, _, _] Try.results76 (rv_tmp rfl) hI26 (Incl.cons (Incl.cons (Incl.cons (Incl.cons (Incl.cons (Incl.skip (Incl.skip (Incl.skip (Incl.skip (Incl.refl _) _) _) _) _) _) _) _) _) _) ⟨(NodeAt.to (Node.mk xr.Term xr.Vote xr.Base xr.BaseTerm xr.Entries xr.id xr.n xr.limit xr.role xr.lead xr.commit xr.clock (Sl.mk (Hd.mk (some ⟨b12, 0, none⟩) ((xr.n).toNat) ((xr.n).toNat)) ((List.replicate ((xr.n).toNat) false).set ((xr.id).toNat) true)) xr.match_ xr.next) (hora.mono hI26) (ho2_9.mono hI26) (horc.mono hI26) (hord.mono hI26) (by first | rfl | (rw [hay26]; rfl))), ⟨y26, rfl, (FRow.mono hy26 (.refl _) (.refl _)), (by first | rfl | (rw [hay26]; rfl))⟩⟩ (.inl rfl)

theorem n_send {I : Gh} {L : List Seg} {br : Nat} {r : NodeP} {Ssr : List Seg} (hr : NodeAt I br r Ssr) (hSsr : Incl Ssr L) (to : Int) (hp0 : NodeP.Few r) (hp1 : 0 ≤ to ∧ to < r.next.length) : PC Try.prog 74 #[.pointer (some ⟨br, 0, none⟩), .int .i64 to] I L fun K v => ∃ (y0 : Msg), v = .agg (y0.cells).toArray ∧ Msg.Ok K y0 ∧ y0.abs = r.send to := by
  obtain ⟨xr, Sra, Srb, Src, Srd, rfl, rfl, hora, horb, horc, hord⟩ := hr
  refine PC.of (n := 69) Try.func74 rfl Try.ntmps74 rfl fun I0 L0 hI0 hL0 => ?_
  have hora := hora.mono hI0
  have horb := horb.mono hI0
  have horc := horc.mono hI0
  have hord := hord.mono hI0
  have hLbr := hSsr.trans hL0
  have hf0 := hp0
  obtain ⟨hfb, hfl, hft, hid0, hidn, hn5, hlim0, hlim1, hclk0, hclk1, hbt, htrm, hcmt⟩ := hf0
  simp only [Node.abs, List.length_map] at hfb hfl hft hid0 hidn hn5 hlim0 hlim1 hclk0 hclk1 hbt htrm hcmt
  have hltm := NodeP.lastTerm_le hp0
  have hlast : NodeP.last xr.abs = xr.Base + xr.Entries.xs.length := by simp [NodeP.last, Node.abs]
  simp only [Node.abs] at hp1
  refine EW_seq ?_
  -- region 0  raft.go:215
  refine EW_region ?_
  refine EL_a rfl rfl rfl (oa_alloc z41) ?_
  intro b4
  refine EL_nil ?_
  refine EQ_then (EQ_wp ?_)
  refine EW_seq ?_
  -- region 1  raft.go:216
  refine EW_region ?_
  refine EL_s rfl rfl rfl (os_move rfl) ?_
  refine EL_s rfl rfl rfl (os_nilCheck rfl) ?_
  refine EL_s rfl rfl rfl (os_field rfl fl47_10) ?_
  refine EL_s rfl rfl rfl (os_load_one rfl one23 (cells_own (own_tail (hLbr.mem own_head)) rfl)) ?_
  refine EL_s rfl rfl rfl (os_move rfl) ?_
  have hl14 := (show xr.next.h.n = xr.next.xs.length from OwnR.len hord)
  obtain ⟨x14, hx14⟩ := get_some (l := xr.next.xs) (k := (to).toNat) (by first | omega | (simp only [List.length_set, List.length_replicate, List.length_cons, List.length_nil]; omega) | (simp <;> omega))
  refine EL_s rfl rfl rfl (os_at (m := xr.next.h.n) ((to).toNat) rfl rfl (by omega) sl23 (by omega) (by have hz_ := OwnR.some hord (by show 0 < xr.next.h.n; omega); exact hz_)) ?_
  have hk15 : x14 ≤ 18446744073709551615 := OwnR.okAt hord hx14
  refine EL_s rfl rfl rfl (os_load_one rfl one22 (FRow.whole (OwnR.frow hord fun x hx => .inr (own_tail (hLbr.mem (own_tail (own_tail (own_tail (own_tail (own_seg hx)))))))) hx14)) ?_
  have hnx : xr.abs.next.getD to.toNat 0 = x14 := by simp [Node.abs, List.getD, hx14]
  refine EL_s rfl rfl rfl (os_assign rfl) ?_
  refine EL_nil ?_
  refine EQ_then (EQ_wp ?_)
  refine EW_seq ?_
  refine EW_seq ?_
  -- region 2  raft.go:217
  refine EW_region ?_
  refine EL_s rfl rfl rfl (os_move rfl) ?_
  refine EL_s rfl rfl rfl (os_move rfl) ?_
  refine EL_s rfl rfl rfl (os_nilCheck rfl) ?_
  refine EL_s rfl rfl rfl (os_field rfl fl47_0) ?_
  refine EL_s rfl rfl rfl (os_field rfl fl36_1) ?_
  refine EL_s rfl rfl rfl (os_load_one rfl one22 (cells_own (own_tail (hLbr.mem own_head)) rfl)) ?_
  refine EL_s rfl rfl rfl (os_leq rfl rfl) ?_
  refine EL_nil ?_
  refine EQ_then (EQ_wp ?_)
  refine EW_cond rfl (fun hc22 => ?_) (fun hc22 => ?_)
  · have hb22 := hc22
    try simp only [Bool.or_eq_true, Bool.and_eq_true, Bool.or_eq_false_iff, Bool.and_eq_false_iff, decide_eq_true_eq, decide_eq_false_iff_not, Bool.not_eq_true', Bool.not_eq_false', Int.natCast_inj, Int.ofNat_lt, Int.ofNat_le] at hc22
    refine EW_seq ?_
    -- region 3 DRAWN  raft.go:218
    refine EW_drawC [] [⟨[], some 23, [0], .s, 0⟩, ⟨[0], some 24, [23], .s, 1⟩, ⟨[1], some 25, [24], .s, 3⟩, ⟨[2], some 26, [25], .s, 7⟩, ⟨[3], some 27, [26], .s, 15⟩, ⟨[4], some 28, [27], .s, 31⟩, ⟨[], some 29, [0], .s, 0⟩, ⟨[6], some 30, [29], .s, 64⟩, ⟨[7], some 31, [30], .s, 192⟩, ⟨[8], some 32, [31], .s, 448⟩, ⟨[9], some 33, [32], .s, 960⟩, ⟨[], some 34, [0], .s, 0⟩, ⟨[11], some 35, [34], .s, 2048⟩, ⟨[12], some 36, [35], .s, 6144⟩, ⟨[13], some 37, [36], .s, 14336⟩, ⟨[14], some 38, [37], .s, 30720⟩, ⟨[5, 10, 15], some 39, [28, 33, 38], .s, 65535⟩, ⟨[16, 0, 1, 2, 3, 4, 5, 6, 7, 8, 9, 10, 11, 12, 13, 14, 15, 16], none, [4, 39], .x, 131071⟩] [.s, .s, .s, .s, .s, .s, .s, .s, .s, .s, .s, .s, .s, .s, .s, .s, .s, .x] [0, 1, 2, 3, 4, 5, 6, 7, 8, 9, 10, 11, 12, 13, 14, 15, 16, 17] mixed (by kernel_rfl) (by kernel_rfl) (by kernel_rfl) rfl rfl ?_
    refine EP_s rfl rfl rfl rfl rfl (by exact (os_move rfl)) ?_
    refine EP_s rfl rfl rfl rfl rfl (by exact (os_nilCheck rfl)) ?_
    refine EP_s rfl rfl rfl rfl rfl (by exact (os_field rfl fl47_0)) ?_
    refine EP_s rfl rfl rfl rfl rfl (by exact (os_field rfl fl36_0)) ?_
    refine EP_s rfl rfl rfl rfl rfl (by exact (os_field rfl fl33_0)) ?_
    refine EP_s rfl rfl rfl rfl rfl (by exact (os_load_one rfl one22 (cells_own (own_tail (hLbr.mem own_head)) rfl))) ?_
    refine EP_s rfl rfl rfl rfl rfl (by exact (os_move rfl)) ?_
    refine EP_s rfl rfl rfl rfl rfl (by exact (os_nilCheck rfl)) ?_
    refine EP_s rfl rfl rfl rfl rfl (by exact (os_field rfl fl47_0)) ?_
    refine EP_s rfl rfl rfl rfl rfl (by exact (os_field rfl fl36_1)) ?_
    refine EP_s rfl rfl rfl rfl rfl (by exact (os_load_one rfl one22 (cells_own (own_tail (hLbr.mem own_head)) rfl))) ?_
    refine EP_s rfl rfl rfl rfl rfl (by exact (os_move rfl)) ?_
    refine EP_s rfl rfl rfl rfl rfl (by exact (os_nilCheck rfl)) ?_
    refine EP_s rfl rfl rfl rfl rfl (by exact (os_field rfl fl47_0)) ?_
    refine EP_s rfl rfl rfl rfl rfl (by exact (os_field rfl fl36_2)) ?_
    refine EP_s rfl rfl rfl rfl rfl (by exact (os_load_one rfl one22 (cells_own (own_tail (hLbr.mem own_head)) rfl))) ?_
    refine EP_s rfl rfl rfl rfl rfl (by exact (os_struct (cs := [_, _, _, _, _, _, _, _, _, _]) [(0, _), (3, _), (4, _), (5, _)] pl41 z41 rfl rfl)) ?_
    refine EP_u rfl rfl rfl rfl (by exact (ox_store rfl rfl sz41 rfl (by rfl) (.head .head))) ?_
    refine EP_nil ?_
    refine EQ_then (EQ_wp ?_)
    refine EW_ret ?_
    refine EQ_then_ret (?_)
    have hr_ret1 : Msg.Ok I0 (Msg.mk 7 0 0 xr.Term xr.Base xr.BaseTerm 0 (Sl.mk (Hd.mk none 0 0) []) false (Sl.mk (Hd.mk none 0 0) [])) := ⟨(by first | omega | (dsimp only; omega)), (by first | omega | (dsimp only; omega)), (by first | omega | (dsimp only; omega)), (by first | omega | (dsimp only; omega)), (by first | omega | (dsimp only; omega)), (by first | omega | (dsimp only; omega)), (by first | omega | (dsimp only; omega)), (FRow.none _ _ _), (FRow.none _ _ _)⟩
    exact pc_ret1 Try.results74 (rv_agg (cs := [(.int .i64 7), (.int .i64 0), (.int .i64 0), (.int .u64 ((xr.Term : Nat) : Int)), (.int .u64 ((xr.Base : Nat) : Int)), (.int .u64 ((xr.BaseTerm : Nat) : Int)), (.int .u64 0), (.slice none 0 0), (.bool false), (.slice none 0 0)]) rfl agg41 (cells_own own_head rfl)) (.refl _) ((Incl.refl _).skip _) ⟨(Msg.mk 7 0 0 xr.Term xr.Base xr.BaseTerm 0 (Sl.mk (Hd.mk none 0 0) []) false (Sl.mk (Hd.mk none 0 0) [])), rfl, hr_ret1, (by rw [NodeP.send, hnx]; exact (if_pos (show x14 ≤ xr.abs.Base from hc22)).symm)⟩ (.inl rfl)
  · have hb22 := hc22
    try simp only [Bool.or_eq_true, Bool.and_eq_true, Bool.or_eq_false_iff, Bool.and_eq_false_iff, decide_eq_true_eq, decide_eq_false_iff_not, Bool.not_eq_true', Bool.not_eq_false', Int.natCast_inj, Int.ofNat_lt, Int.ofNat_le] at hc22
    refine EW_skip ?_
    refine EQ_then (EQ_wp ?_)
    refine EW_seq ?_
    -- region 4  raft.go:220
    refine EW_region ?_
    refine EL_s rfl rfl rfl (os_move rfl) ?_
    refine EL_s rfl rfl rfl (os_move rfl) ?_
    refine EL_s rfl rfl rfl (os_subn (p := x14) (q := 1) rfl rfl (by omega) (IntWalk.u64_in _ (by omega))) ?_
    refine EL_s rfl rfl rfl (os_call (vs := [(.pointer (some ⟨br, 0, none⟩)), (.int .u64 (((x14 - 1) : Nat) : Int))]) body23 rfl (n_TermAt (NodeAt.intro xr hora horb horc hord) (hLbr.skip _) (x14 - 1) (by assumption))) ?_
    have hta := NodeP.termAt_le hp0 (x14 - 1)
    refine EL_s rfl rfl rfl (os_move rfl) ?_
    refine EL_s rfl rfl rfl (os_extract rfl rfl) ?_
    refine EL_s rfl rfl rfl (os_extract rfl rfl) ?_
    refine EL_s rfl rfl rfl (os_assign rfl) ?_
    refine EL_s rfl rfl rfl (os_assign rfl) ?_
    refine EL_nil ?_
    refine EQ_then (EQ_wp ?_)
    refine EW_seq ?_
    -- region 5  raft.go:221
    refine EW_region ?_
    refine EL_s rfl rfl rfl (os_move rfl) ?_
    refine EL_s rfl rfl rfl (os_move rfl) ?_
    refine EL_g rfl rfl rfl (og_call (vs := [(.pointer (some ⟨br, 0, none⟩)), (.int .u64 ((x14 : Nat) : Int))]) body22 rfl (n_From (NodeAt.intro xr hora horb horc hord) (hLbr.skip _) x14 (by assumption))) ?_
    intro I49 v49 hI49 hv49
    obtain ⟨y49, rfl, hy49, hay49⟩ := hv49
    refine EL_s rfl rfl rfl (os_assign rfl) ?_
    refine EL_nil ?_
    refine EQ_then (EQ_wp ?_)
    refine EW_seq ?_
    -- region 6 DRAWN  raft.go:222
    refine EW_drawC [] [⟨[], some 50, [0], .s, 0⟩, ⟨[0], some 51, [50], .s, 1⟩, ⟨[1], some 52, [51], .s, 3⟩, ⟨[2], some 53, [52], .s, 7⟩, ⟨[3], some 54, [53], .s, 15⟩, ⟨[4], some 55, [54], .s, 31⟩, ⟨[], some 56, [5], .s, 0⟩, ⟨[6], some 57, [56], .s, 64⟩, ⟨[], some 58, [6], .s, 0⟩, ⟨[], some 59, [0], .s, 0⟩, ⟨[9], some 60, [59], .s, 512⟩, ⟨[10], some 61, [60], .s, 1536⟩, ⟨[11], some 62, [61], .s, 3584⟩, ⟨[], some 63, [8], .s, 0⟩, ⟨[], some 64, [8], .s, 0⟩, ⟨[14], some 65, [64], .s, 16384⟩, ⟨[15], some 66, [65], .s, 49152⟩, ⟨[13, 16], some 67, [63, 66], .s, 122880⟩, ⟨[5, 7, 8, 12, 17], some 68, [55, 57, 58, 62, 67], .s, 262143⟩, ⟨[18, 0, 1, 2, 3, 4, 5, 6, 7, 8, 9, 10, 11, 12, 13, 14, 15, 16, 17, 18], none, [4, 68], .x, 524287⟩] [.s, .s, .s, .s, .s, .s, .s, .s, .s, .s, .s, .s, .s, .s, .s, .s, .s, .s, .s, .x] [0, 1, 2, 3, 4, 5, 6, 7, 8, 9, 10, 11, 12, 13, 14, 15, 16, 17, 18, 19] mixed (by kernel_rfl) (by kernel_rfl) (by kernel_rfl) rfl rfl ?_
    refine EP_s rfl rfl rfl rfl rfl (by exact (os_move rfl)) ?_
    refine EP_s rfl rfl rfl rfl rfl (by exact (os_nilCheck rfl)) ?_
    refine EP_s rfl rfl rfl rfl rfl (by exact (os_field rfl fl47_0)) ?_
    refine EP_s rfl rfl rfl rfl rfl (by exact (os_field rfl fl36_0)) ?_
    refine EP_s rfl rfl rfl rfl rfl (by exact (os_field rfl fl33_0)) ?_
    refine EP_s rfl rfl rfl rfl rfl (by exact (os_load_one rfl one22 (cells_own (own_tail (hLbr.mem own_head)) rfl))) ?_
    refine EP_s rfl rfl rfl rfl rfl (by exact (os_move rfl)) ?_
    refine EP_s rfl rfl rfl rfl rfl (by exact (os_subn (p := x14) (q := 1) rfl rfl (by omega) (IntWalk.u64_in _ (by omega)))) ?_
    refine EP_s rfl rfl rfl rfl rfl (by exact (os_move rfl)) ?_
    refine EP_s rfl rfl rfl rfl rfl (by exact (os_move rfl)) ?_
    refine EP_s rfl rfl rfl rfl rfl (by exact (os_nilCheck rfl)) ?_
    refine EP_s rfl rfl rfl rfl rfl (by exact (os_field rfl fl47_6)) ?_
    refine EP_s rfl rfl rfl rfl rfl (by exact (os_load_one rfl one22 (cells_own (own_tail (hLbr.mem own_head)) rfl))) ?_
    refine EP_s rfl rfl rfl rfl rfl (by exact (os_move rfl)) ?_
    refine EP_s rfl rfl rfl rfl rfl (by exact (os_move rfl)) ?_
    have hl65 := (show y49.h.n = y49.xs.length from FRow.len hy49)
    refine EP_s rfl rfl rfl rfl rfl (by exact (os_len rfl sl34)) ?_
    refine EP_s rfl rfl rfl rfl rfl (by exact (os_minn (p := 16) (q := y49.h.n) rfl rfl)) ?_
    have hl67 := (show y49.h.n = y49.xs.length from FRow.len hy49)
    have hn67 := (show y49.h.n ≤ y49.h.c from FRow.nle hy49)
    have hs67 := (FRow.subS (l := 0) (u := (min 16 y49.h.n)) 2 rfl hy49 (by omega) (by omega))
    refine EP_s rfl rfl rfl rfl rfl (by exact (os_sub_slice (k := .i64) (k' := .i64) 0 (min 16 y49.h.n) rfl sl34 rfl ⟨_, rfl, by omega⟩ (by omega) (by omega))) ?_
    refine EP_s rfl rfl rfl rfl rfl (by exact (os_struct (cs := [_, _, _, _, _, _, _, _, _, _]) [(0, _), (3, _), (4, _), (5, _), (6, _), (7, _)] pl41 z41 rfl rfl)) ?_
    refine EP_u rfl rfl rfl rfl (by exact (ox_store rfl rfl sz41 rfl (by rfl) (.head .head))) ?_
    refine EP_nil ?_
    refine EQ_then (EQ_wp ?_)
    refine EW_ret ?_
    have hr_ret2 : Msg.Ok I49 (Msg.mk 5 0 0 xr.Term (x14 - 1) (((xr.abs).termAt (x14 - 1)).getD 0) xr.commit (subSl 2 y49 0 (min 16 y49.h.n)) false (Sl.mk (Hd.mk none 0 0) [])) := ⟨(by first | omega | (dsimp only; omega)), (by first | omega | (dsimp only; omega)), (by first | omega | (dsimp only; omega)), (by first | omega | (dsimp only; omega)), (by first | omega | (dsimp only; omega)), (by first | omega | (dsimp only; omega)), (by first | omega | (dsimp only; omega)), (FRow.mono hs67 (.refl _) (.refl _)), (FRow.none _ _ _)⟩
    exact pc_ret1 Try.results74 (rv_agg (cs := [(.int .i64 5), (.int .i64 0), (.int .i64 0), (.int .u64 ((xr.Term : Nat) : Int)), (.int .u64 (((x14 - 1) : Nat) : Int)), (.int .u64 (((((xr.abs).termAt (x14 - 1)).getD 0) : Nat) : Int)), (.int .u64 ((xr.commit : Nat) : Int)), ((subSl 2 y49 0 (min 16 y49.h.n)).v), (.bool false), (.slice none 0 0)]) rfl agg41 (cells_own own_head rfl)) hI49 ((Incl.refl _).skip _) ⟨(Msg.mk 5 0 0 xr.Term (x14 - 1) (((xr.abs).termAt (x14 - 1)).getD 0) xr.commit (subSl 2 y49 0 (min 16 y49.h.n)) false (Sl.mk (Hd.mk none 0 0) [])), rfl, hr_ret2, (by rw [NodeP.send, hnx]; refine Eq.trans ?_ (if_neg (show ¬ x14 ≤ xr.abs.Base from hc22)).symm; rw [← hay49]; simp only [Msg.abs, Node.abs, subSl, List.extract_eq_take_drop, List.drop_zero, Nat.sub_zero, List.map_take]; rw [take_min_len (by rw [List.length_map]; exact hl65)])⟩ (.inl rfl)


end Go.Proofs.Ytlhibbjnhdcffaa
