/- Proved here: the part R of the proof that the law of this seat returns true for every input; no condition. -/
import Derived.Test.YtlhibbjnhdcffaaQ
set_option maxRecDepth 20000
set_option linter.unusedVariables false
set_option linter.unusedSimpArgs false
namespace Go.Proofs.Ytlhibbjnhdcffaa
open Go Go.Gl

theorem NodeP.from_zero (r : NodeP) : r.from_ 0 = r.Entries := by
  rw [NodeP.from_, if_neg (by omega), show max 0 (r.Base + 1) - r.Base - 1 = 0 by omega]
  rfl
set_option maxHeartbeats 2000000 in
theorem l_told {I : Gh} {L : List Seg} {br : Nat} {r : NodeP} {Ssr : List Seg} (hr : NodeAt I br r Ssr) (hSsr : Incl Ssr L) (hp0 : NodeP.Few r) (hp1 : -1 ≤ r.Vote ∧ r.Vote ≤ 5) (hp2 : 0 ≤ r.role ∧ r.role ≤ 3) : PC Try.prog 21 #[.pointer (some ⟨br, 0, none⟩)] I L fun K v => ∃ (y0 : RNode), v = .agg (y0.cells).toArray ∧ RNode.Ok K y0 ∧ y0.abs = refOf r := by
  obtain ⟨xr, Sra, Srb, Src, Srd, rfl, rfl, hora, horb, horc, hord⟩ := hr
  refine PC.of (n := 52) Try.func21 rfl Try.ntmps21 rfl fun I0 L0 hI0 hL0 => ?_
  have hora := hora.mono hI0
  have horb := horb.mono hI0
  have horc := horc.mono hI0
  have hord := hord.mono hI0
  have hLbr := hSsr.trans hL0
  have hf0 := hp0
  obtain ⟨hfb, hfl, hft, hid0, hidn, hn5, hlim0, hlim1, hclk0, hclk1, hbt, htrm, hcmt⟩ := hf0
  simp only [Node.abs, List.length_map] at hfb hfl hft hid0 hidn hn5 hlim0 hlim1 hclk0 hclk1 hbt htrm hcmt
  have hltm := NodeP.lastTerm_le hp0
  have hlast : NodeP.last xr.abs = xr.Base + xr.Entries.xs.length := by simp [NodeP.last, Node.abs]
  have e1 : xr.abs.commit = xr.commit := rfl
  have e2 : xr.abs.role = xr.role := rfl
  simp only [Node.abs] at hp1 hp2
  refine EW_seq ?_
  -- region 0  law.go:49
  refine EW_region ?_
  refine EL_a rfl rfl rfl (oa_alloc z55) ?_
  intro b2
  refine EL_nil ?_
  refine EQ_then (EQ_wp ?_)
  refine EW_seq ?_
  -- region 1 DRAWN  law.go:50
  refine EW_drawC [] [⟨[], some 6, [0], .s, 0⟩, ⟨[0], some 7, [6], .s, 1⟩, ⟨[1], some 8, [7], .s, 3⟩, ⟨[2], some 9, [8], .s, 7⟩, ⟨[3], some 10, [9], .s, 15⟩, ⟨[4], some 11, [10], .s, 31⟩, ⟨[], some 12, [0], .s, 0⟩, ⟨[6], some 13, [12], .s, 64⟩, ⟨[7], some 14, [13], .s, 192⟩, ⟨[8], some 15, [14], .s, 448⟩, ⟨[9], some 16, [15], .s, 960⟩, ⟨[10], some 17, [16], .s, 1984⟩, ⟨[], some 18, [0], .s, 0⟩, ⟨[12], some 19, [18], .s, 4096⟩, ⟨[], some 20, [0], .s, 0⟩, ⟨[14], some 21, [20], .s, 16384⟩, ⟨[15], some 22, [21], .s, 49152⟩, ⟨[16], some 23, [22], .s, 114688⟩, ⟨[17], some 24, [23], .s, 245760⟩, ⟨[], some 25, [0], .s, 0⟩, ⟨[19], some 26, [25], .s, 524288⟩, ⟨[20], some 27, [26], .s, 1572864⟩, ⟨[21], some 28, [27], .s, 3670016⟩, ⟨[22], some 29, [28], .s, 7864320⟩, ⟨[], some 30, [0], .s, 0⟩, ⟨[24, 13], some 31, [30], .s, 16789504⟩, ⟨[5, 11, 13, 18, 23, 25], some 32, [11, 17, 19, 24, 29, 31], .s, 67108863⟩, ⟨[], some 3, [], .a, 0⟩, ⟨[27, 26, 25, 0, 1, 2, 3, 4, 5, 6, 7, 8, 9, 10, 11, 12, 13, 14, 15, 16, 17, 18, 19, 20, 21, 22, 23, 24, 25, 26, 27], none, [3, 32], .x, 268435455⟩] [.s, .s, .s, .s, .s, .s, .s, .s, .s, .s, .s, .s, .s, .s, .s, .s, .s, .s, .s, .s, .s, .s, .s, .s, .s, .s, .s, .a, .x] [0, 1, 2, 3, 4, 5, 6, 7, 8, 9, 10, 11, 12, 13, 14, 15, 16, 17, 18, 19, 20, 21, 22, 23, 24, 25, 26, 27, 28] mixed (by kernel_rfl) (by kernel_rfl) (by kernel_rfl) rfl rfl ?_
  refine EP_s rfl rfl rfl rfl rfl (by exact (os_move rfl)) ?_
  refine EP_s rfl rfl rfl rfl rfl (by exact (os_nilCheck rfl)) ?_
  refine EP_s rfl rfl rfl rfl rfl (by exact (os_field rfl fl47_0)) ?_
  refine EP_s rfl rfl rfl rfl rfl (by exact (os_field rfl fl36_0)) ?_
  refine EP_s rfl rfl rfl rfl rfl (by exact (os_field rfl fl33_0)) ?_
  refine EP_s rfl rfl rfl rfl rfl (by exact (os_load_one rfl one22 (cells_own (own_tail (hLbr.mem own_head)) rfl))) ?_
  refine EP_s rfl rfl rfl rfl rfl (by exact (os_move rfl)) ?_
  refine EP_s rfl rfl rfl rfl rfl (by exact (os_nilCheck rfl)) ?_
  refine EP_s rfl rfl rfl rfl rfl (by exact (os_field rfl fl47_0)) ?_
  refine EP_s rfl rfl rfl rfl rfl (by exact (os_field rfl fl36_0)) ?_
  refine EP_s rfl rfl rfl rfl rfl (by exact (os_field rfl fl33_1)) ?_
  refine EP_s rfl rfl rfl rfl rfl (by exact (os_load_one rfl one3 (cells_own (own_tail (hLbr.mem own_head)) rfl))) ?_
  refine EP_s rfl rfl rfl rfl rfl (by exact (os_move rfl)) ?_
  refine EP_s rfl rfl rfl rfl rfl (by exact (os_call (vs := [(.pointer (some ⟨br, 0, none⟩))]) body30 rfl (n_Role (NodeAt.intro xr hora horb horc hord) (hLbr.skip _)))) ?_
  refine EP_s rfl rfl rfl rfl rfl (by exact (os_move rfl)) ?_
  refine EP_s rfl rfl rfl rfl rfl (by exact (os_nilCheck rfl)) ?_
  refine EP_s rfl rfl rfl rfl rfl (by exact (os_field rfl fl47_0)) ?_
  refine EP_s rfl rfl rfl rfl rfl (by exact (os_field rfl fl36_1)) ?_
  refine EP_s rfl rfl rfl rfl rfl (by exact (os_load_one rfl one22 (cells_own (own_tail (hLbr.mem own_head)) rfl))) ?_
  refine EP_s rfl rfl rfl rfl rfl (by exact (os_move rfl)) ?_
  refine EP_s rfl rfl rfl rfl rfl (by exact (os_nilCheck rfl)) ?_
  refine EP_s rfl rfl rfl rfl rfl (by exact (os_field rfl fl47_0)) ?_
  refine EP_s rfl rfl rfl rfl rfl (by exact (os_field rfl fl36_2)) ?_
  refine EP_s rfl rfl rfl rfl rfl (by exact (os_load_one rfl one22 (cells_own (own_tail (hLbr.mem own_head)) rfl))) ?_
  refine EP_s rfl rfl rfl rfl rfl (by exact (os_move rfl)) ?_
  refine EP_s rfl rfl rfl rfl rfl (by exact (os_call (vs := [(.pointer (some ⟨br, 0, none⟩))]) body15 rfl (n_Commit (NodeAt.intro xr hora horb horc hord) (hLbr.skip _)))) ?_
  refine EP_s rfl rfl rfl rfl rfl (by exact (os_struct (cs := [_, _, _, _, _, _, _]) [(0, _), (1, _), (2, _), (3, _), (4, _), (6, _)] pl55 z55 rfl rfl)) ?_
  refine EP_a rfl rfl rfl rfl rfl (by exact (oa_alloc z55)) ?_
  intro b3
  refine EP_u rfl rfl rfl rfl (by exact (ox_store rfl rfl sz55 rfl (by rfl) (.head .head))) ?_
  refine EP_nil ?_
  refine EQ_then (EQ_wp ?_)
  refine EW_seq ?_
  refine EW_seq ?_
  -- region 2  law.go:51
  refine EW_region ?_
  refine EL_s rfl rfl rfl (os_move rfl) ?_
  refine EL_g rfl rfl rfl (og_call (vs := [(.pointer (some ⟨br, 0, none⟩)), (.int .u64 0)]) body22 rfl (n_From (NodeAt.intro xr hora horb horc hord) ((hLbr.skip _).skip _) 0 (by assumption))) ?_
  intro I34 v34 hI34 hv34
  obtain ⟨y34, rfl, hy34, hay34⟩ := hv34
  rw [NodeP.from_zero] at hay34
  have hy34l : y34.xs.length = xr.Entries.xs.length := by have hz := congrArg List.length hay34; simpa [Node.abs] using hz
  have hl35 := (show y34.h.n = y34.xs.length from FRow.len hy34)
  refine EL_s rfl rfl rfl (os_len rfl sl34) ?_
  refine EL_s rfl rfl rfl (os_move rfl) ?_
  refine EL_nil ?_
  refine EQ_then (EQ_wp ?_)
  refine EW_block ?_
  refine EW_loop (σ := Gh × Nat × Seg × (Sl REntry)) (fun ⟨IJ0, k, S, o⟩ => [(2, (.pointer (some ⟨b2, 0, none⟩))), (3, (.pointer (some ⟨b3, 0, none⟩))), (34, (y34.v)), (35, (.int .i64 ((y34.h.n : Nat) : Int))), (36, (.int .i64 ((k : Nat) : Int)))]) (fun ⟨IJ0, k, S, o⟩ => IJ0) (fun ⟨IJ0, k, S, o⟩ => S :: [(b3, .cells #[(.int .u64 ((xr.Term : Nat) : Int)), (.int .i64 xr.Vote), (.int .i64 ((xr.abs).role)), (.int .u64 ((xr.Base : Nat) : Int)), (.int .u64 ((xr.BaseTerm : Nat) : Int)), (o.v), (.int .u64 ((((xr.abs).commit) : Nat) : Int))] 55)] :: [(b2, .cells #[(.int .u64 0), (.int .i64 0), (.int .i64 0), (.int .u64 0), (.int .u64 0), (.slice none 0 0), (.int .u64 0)] 55)] :: L0) (fun ⟨IJ0, k, S, o⟩ => I34.le IJ0 ∧ k ≤ y34.xs.length ∧ OwnR rREntry IJ0 130 o S ∧ o.xs.map REntry.abs = ((y34.xs.map Entry.abs).take k).map (fun e => ⟨e.Term, e.Data⟩)) (fun ⟨IJ0, k, S, o⟩ => y34.xs.length - k) (I34, 0, [], ⟨⟨none, 0, 0⟩, []⟩) ⟨Gh.le.refl _, ⟨Nat.zero_le _, OwnR.none _ _ _, rfl⟩⟩ ⟨rfl, rfl, rfl, rfl, rfl, trivial⟩ (fun w h => h.incl (Incl.of_nil (.refl _))) ?_
  rintro ⟨IJ0, k, S, o⟩ ⟨hIJ0, ⟨hk, ho, ha⟩⟩
  have hlo := congrArg List.length ha
  simp only [List.length_map, List.length_take] at hlo
  refine EW_seq ?_
  -- region 3  law.go:51
  refine EW_region ?_
  refine EL_s rfl rfl rfl (os_lss rfl rfl) ?_
  refine EL_nil ?_
  refine EQ_then (EQ_wp ?_)
  refine EW_seq ?_
  refine EW_cond rfl (fun hc37 => ?_) (fun hc37 => ?_)
  · have hb37 := hc37
    try simp only [Bool.or_eq_true, Bool.and_eq_true, Bool.or_eq_false_iff, Bool.and_eq_false_iff, decide_eq_true_eq, decide_eq_false_iff_not, Bool.not_eq_true', Bool.not_eq_false', Int.natCast_inj, Int.ofNat_lt, Int.ofNat_le] at hc37
    refine EW_skip ?_
    refine EQ_then (EQ_wp ?_)
    refine EW_seq ?_
    refine EW_block ?_
    refine EW_seq ?_
    -- region 4  law.go:51
    refine EW_region ?_
    have hl38 := (show y34.h.n = y34.xs.length from FRow.len hy34)
    obtain ⟨x38, hx38⟩ := get_some (l := y34.xs) (k := k) (by first | omega | (simp only [List.length_set, List.length_replicate, List.length_cons, List.length_nil]; omega) | (simp <;> omega))
    refine EL_s rfl rfl rfl (os_at (m := y34.h.n) (k) rfl rfl (by omega) sl34 (by omega) (by have hz_ := FRow.some hy34 (by show 0 < y34.h.n; omega); exact hz_)) ?_
    have hk39 := FRow.okAt hy34 hx38
    refine EL_s rfl rfl rfl (os_load_agg (cs := rEntry.cells x38) rfl agg125 (FRow.whole (FRow.mono hy34 hIJ0 (Incl.nil _)) hx38)) ?_
    refine EL_a rfl rfl rfl (oa_alloc z125) ?_
    intro b5
    refine EL_u rfl rfl (ox_store rfl rfl sz125 rfl (by rfl) (.head .head)) ?_
    refine EL_nil ?_
    refine EQ_then (EQ_wp ?_)
    -- region 5  law.go:52
    refine EW_region ?_
    refine EL_s rfl rfl rfl (os_field rfl fl55_5) ?_
    refine EL_s rfl rfl rfl (os_load_one rfl one53 (cells_own (own_tail (own_tail own_head)) rfl)) ?_
    refine EL_s rfl rfl rfl (os_field rfl fl125_0) ?_
    refine EL_s rfl rfl rfl (os_load_one rfl one22 (cells_own own_head rfl)) ?_
    refine EL_s rfl rfl rfl (os_field rfl fl125_1) ?_
    refine EL_s rfl rfl rfl (os_load_one rfl one39 (cells_own own_head rfl)) ?_
    refine EL_s rfl rfl rfl (os_struct (cs := [_, _]) [(0, _), (1, _)] pl130 z130 rfl rfl) ?_
    have hr_y47_0 : REntry.Ok IJ0 (REntry.mk x38.Term x38.Data) := ⟨hk39.Term, (FRow.mono hk39.Data hIJ0 (.refl _))⟩
    refine EL_a rfl rfl rfl (oa_slice [_] sl53 z130 rfl rfl rfl rfl) ?_
    intro b47
    have hob47 : OwnR rREntry IJ0 130 (Sl.mk (Hd.mk (some ⟨b47, 0, none⟩) 1 1) [(REntry.mk x38.Term x38.Data)]) [(b47, .cells _ 130)] := OwnR.lit rfl rfl (by unfold maxLen; omega) (by decide) (fun x hx => by simp only [List.mem_cons, List.not_mem_nil, or_false] at hx; rcases hx with rfl <;> first | exact hr_y47_0)
    refine EL_y rfl rfl rfl (ox_app (R := rREntry) (bytes := 32) (s := o) (s' := (Sl.mk (Hd.mk (some ⟨b47, 0, none⟩) 1 1) [(REntry.mk x38.Term x38.Data)])) 2 rfl rfl rfl rfl sl53 z130 rfl ho (bk_2 _ _ _ _) (OwnR.frow hob47 fun x hx => .inr (own_seg hx)) (by first | omega | (simp only [List.length_cons, List.length_nil]; omega)) (by unfold maxLen; first | omega | (simp only [List.length_cons, List.length_nil, Nat.zero_add]; omega))) ?_
    rintro L48 v48 ⟨s48, S48, rfl, rfl, hx48, ho48⟩
    refine EL_perm (bk_2 _ _ _ _) ?_
    refine EL_s rfl rfl rfl (os_field rfl fl55_5) ?_
    refine EL_u rfl rfl (ox_store rfl rfl sz53 rfl (by rfl) (.tail (.tail (.tail (.head .head))))) ?_
    refine EL_nil ?_
    refine EQ_block_normal ?_
    refine EQ_then (EQ_wp ?_)
    -- region 6  law.go:51
    refine EW_region ?_
    refine EL_s rfl rfl rfl (os_addn (p := k) (q := 1) rfl rfl (IntWalk.i64_in _ (by omega))) ?_
    refine EL_s rfl rfl rfl (os_move rfl) ?_
    refine EL_nil ?_
    refine EQ_round (IJ0, (k + 1), S48, s48) ?_ ?_ ?_ ?_
    · exact ⟨hIJ0, ⟨by omega, ho48, by rw [hx48, List.map_append, ha, List.take_add_one]; simp [hx38, Entry.abs, REntry.abs]⟩⟩
    · first | omega | (dsimp only; omega)
    · exact ⟨rfl, rfl, rfl, rfl, rfl, trivial⟩
    · exact fun w h => h.incl (Incl.skip (Incl.skip (Incl.cons (Incl.cons (Incl.cons (Incl.refl _) _) _) _) _) _)
  · have hb37 := hc37
    try simp only [Bool.or_eq_true, Bool.and_eq_true, Bool.or_eq_false_iff, Bool.and_eq_false_iff, decide_eq_true_eq, decide_eq_false_iff_not, Bool.not_eq_true', Bool.not_eq_false', Int.natCast_inj, Int.ofNat_lt, Int.ofNat_le] at hc37
    refine EW_exit ?_
    refine EQ_then_exit (EQ_then_exit (EQ_block_exit (?_)))
    refine EQ_then (EQ_wp ?_)
    refine EW_seq ?_
    -- region 7  law.go:54
    refine EW_region ?_
    refine EL_s rfl rfl rfl (os_load_agg (cs := [_, _, _, _, _, _, _]) rfl agg55 (cells_own (own_tail own_head) rfl)) ?_
    refine EL_u rfl rfl (ox_store rfl rfl sz55 rfl (by rfl) (.tail (.tail (.head .head)))) ?_
    refine EL_nil ?_
    refine EQ_then (EQ_wp ?_)
    refine EW_ret ?_
    refine EQ_freeze (.refl _) (fun Iz1_0_5 hIz1_0_5 hfz1_0_5 => ?_)
    have hzz1_0_5 : FRow rREntry Iz1_0_5 [] o := OwnR.frow (ho.mono hIz1_0_5) fun x hx => .inl (hfz1_0_5 x hx)
    have hr_ret1 : RNode.Ok Iz1_0_5 (RNode.mk xr.Term xr.Vote ((xr.abs).role) xr.Base xr.BaseTerm o ((xr.abs).commit)) := ⟨(by first | omega | (dsimp only; omega)), (by first | omega | (dsimp only; omega)), (by first | omega | (dsimp only; omega)), (by first | omega | (dsimp only; omega)), (by first | omega | (dsimp only; omega)), (FRow.mono hzz1_0_5 (.refl _) (.refl _)), (by first | omega | (dsimp only; omega))⟩
    exact pc_ret1 Try.results21 (rv_agg (cs := [(.int .u64 ((xr.Term : Nat) : Int)), (.int .i64 xr.Vote), (.int .i64 ((xr.abs).role)), (.int .u64 ((xr.Base : Nat) : Int)), (.int .u64 ((xr.BaseTerm : Nat) : Int)), (o.v), (.int .u64 ((((xr.abs).commit) : Nat) : Int))]) rfl agg55 (cells_own (own_tail own_head) rfl)) (hI34.trans (hIJ0.trans hIz1_0_5)) (((Incl.refl _).skip _).skip _) ⟨(RNode.mk xr.Term xr.Vote ((xr.abs).role) xr.Base xr.BaseTerm o ((xr.abs).commit)), rfl, hr_ret1, (by rw [List.take_of_length_le (by simp; omega)] at ha; simp [RNode.abs, refOf, Node.abs, ha, hay34])⟩ (.inl rfl)


end Go.Proofs.Ytlhibbjnhdcffaa
