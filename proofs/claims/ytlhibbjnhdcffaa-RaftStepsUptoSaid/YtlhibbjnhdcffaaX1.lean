/- Proved here: the part X1 of the proof that the law of this seat returns true for every input; no condition. -/
import Derived.Test.YtlhibbjnhdcffaaR
set_option maxRecDepth 20000
set_option linter.unusedVariables false
set_option linter.unusedSimpArgs false
namespace Go.Proofs.Ytlhibbjnhdcffaa
open Go Go.Gl

section
variable {P : Program} {n : Nat} {e : Env} {I : Gh} {L : List Seg} {d : Option Tmp} {ty : TypeId} {pos : String} {af : Array Edge} {g : Option (Nat × Bool)}
/-- A pointer and nil. -/
theorem os_eql_pn {t tp u : TypeId} {x y : Operand} {a : Option Addr} (hx : ev e x = some (.pointer a)) (hy : ev e y = some (.pointer none)) (ht : P.underlying t = some (.pointer tp)) : OS P n ⟨d, .binOp .eql t x y u, ty, pos, af, g⟩ e I L (.bool a.isNone) :=
  os_run fun b w hb => by
    simp only [execOp, hb.eval hx, hb.eval hy]
    have h1 : (eqGuard .eql t x y (.pointer a) (.pointer none)).run P w = .ok () w := by simp [eqGuard]
    have h : ∀ k : Nat, (Op.equalIn (k + 1) t (.pointer a) (.pointer none)).run P w = .ok a.isNone w := fun k => by
      cases a <;> simp [Op.equalIn, run_underlying ht]
    have h2 : (binOp .eql t (.pointer a) (.pointer none)).run P w = .ok (.bool a.isNone) w := by
      simp only [binOp]
      simp [Op.equal, Op.maxDepth, h 9999]
    simp only [Sem.run_bind, h1, Result.andThen_ok, h2]
    rfl
/-- A string's bytes, as a slice: the block is marked. -/
theorem ox_mark {t el : TypeId} {x : Operand} {b m c : Nat} {cs : Array Value} {T : TypeId} {L' : List Seg} (hx : ev e x = some (.slice (some ⟨b, 0, none⟩) m c)) (ht : P.underlying t = some (.slice el)) (he : P.underlying el = some (.int .u8))
    (hu : Upd b (.cells cs T) (.cells cs T (cs.size, cs.size + 1)) L L') :
    OX P n ⟨d, .convert t t x, ty, pos, af, g⟩ e I L fun _ M v => M = L' ∧ v = .slice (some ⟨b, 0, none⟩) m c :=
  fun J E a w _ ha hw => by
    have hh : w.heap[b]? = some (.cells cs T) := hw.own _ (by rw [List.flatten_append]; exact List.mem_append_right _ hu.mem)
    have hsh : w.shape? b = some (T, cs.size) := by simp [World.shape?, hh]
    refine yield_val (w' := w.freeze ⟨b, cs.size, none⟩ 1) (v := .slice (some ⟨b, 0, none⟩) m c) ?_ ?_
    · simp only [execOp, ha.eval hx]
      simp [convert, Sem.run_bind, run_underlying ht, run_underlying he, markStringish, shape, Sem.run, freeze, hsh, Sem.bind]
    · refine ⟨J, L', .refl J, hw.upd (hu.front E) ?_ ?_ rfl rfl rfl, rfl, rfl⟩
      · simp [World.freeze, Array.getElem?_modify, hh]
      · intro k hk
        simp [World.freeze, Array.getElem?_modify, Ne.symm hk]
end
theorem frow_one {I : Gh} {L : List Seg} {b : Nat} {T : TypeId} {fr : Nat × Nat} (x : UInt8) (h : (b, Obj.cells #[.int .u8 ((x.toNat : Nat) : Int)] T fr) ∈ L.flatten) : FRow rByte I L (Sl.mk (Hd.mk (some ⟨b, 0, none⟩) 1 1) [x]) := by
  refine ⟨⟨rfl, Nat.le_refl _, by show 1 ≤ maxLen; unfold maxLen; omega, by simp, fun i v hv => ?_, fun v hv => ?_⟩, fun _ _ => trivial, by simp [rByte]⟩
  · cases i with
    | zero => cases hv; exact cells_own h rfl
    | succ i => cases hv
  · obtain ⟨y, _, rfl⟩ := List.mem_map.1 hv; exact rByte.len y
theorem sorted_one (x : Nat) : NodeP.sorted [x] = [x] := by simp [NodeP.sorted]
def aw0 : NodeP := ⟨0, -1, 0, 0, [], 0, 1, 2, 0, -1, 0, 0, [], [], []⟩
def aw1 : NodeP := ⟨0, -1, 0, 0, [], 0, 1, 2, 0, -1, 0, 1, [], [], []⟩
def aw2 : NodeP := ⟨1, 0, 0, 0, [⟨1, []⟩], 0, 1, 2, 3, 0, 1, 0, [true], [1], [1]⟩
def aw3 : NodeP := ⟨1, 0, 0, 0, [⟨1, []⟩, ⟨1, [120]⟩], 0, 1, 2, 3, 0, 2, 0, [true], [2], [1]⟩
theorem aw_tick1 : aw0.tick = (aw1, []) := by simp [NodeP.tick, aw0, aw1]
theorem aw_tick2 : aw1.tick.1 = aw2 := by
  simp [NodeP.tick, NodeP.stand, NodeP.rise, NodeP.call, NodeP.most, NodeP.begin, NodeP.crown, NodeP.add, NodeP.grow, NodeP.agree, sorted_one, NodeP.termAt, NodeP.last, aw1, aw2, List.replicate]
theorem aw_prop : aw2.propose [120] = (aw3, 2, [], 0) := by
  simp [NodeP.propose, NodeP.add, NodeP.grow, NodeP.agree, sorted_one, NodeP.termAt, NodeP.last, aw2, aw3, NodeP.others, List.range, List.range.loop]
theorem aw_few0 : aw0.Few := by constructor <;> simp [aw0]
theorem aw_few1 : aw1.Few := by constructor <;> simp [aw1]
theorem aw_few2 : aw2.Few := by constructor <;> simp [aw2]
theorem aw_few3 : aw3.Few := by constructor <;> simp [aw3]
theorem unby : Try.prog.underlying 39 = some (.slice 5) := by kernel_rfl
theorem unu8 : Try.prog.underlying 5 = some (.int .u8) := by kernel_rfl
theorem unnode : Try.prog.underlying 28 = some (.pointer 47) := by kernel_rfl
theorem l_awake {I : Gh} {L : List Seg}  : PC Try.prog 11 #[] I L fun K v => v = .bool (true) := by
  refine PC.of (n := 64) Try.func11 rfl Try.ntmps11 rfl fun I0 L0 hI0 hL0 => ?_
  refine EW_seq ?_
  -- region 0  law.go:58
  refine EW_region ?_
  refine EL_s rfl rfl rfl (os_assign rfl) ?_
  refine EL_nil ?_
  refine EQ_then (EQ_wp ?_)
  refine EW_seq ?_
  -- region 1  law.go:59
  refine EW_region ?_
  refine EL_s rfl rfl rfl (os_struct (cs := [_, _]) [(1, _)] pl33 z33 rfl rfl) ?_
  refine EL_s rfl rfl rfl (os_struct (cs := [_, _, _, _, _]) [(0, _)] pl36 z36 rfl rfl) ?_
  have hr_a8_3 : StateR.Ok I0 (StateR.mk 0 (-1) 0 0 (Sl.mk (Hd.mk none 0 0) [])) := ⟨(by first | omega | (dsimp only; omega)), (by first | omega | (dsimp only; omega)), (by first | omega | (dsimp only; omega)), (by first | omega | (dsimp only; omega)), (FRow.none _ _ _)⟩
  refine EL_x rfl rfl (ox_callN (vs := [(.int .i64 0), (.int .i64 1), (.int .i64 2), .agg ((StateR.mk 0 (-1) 0 0 (Sl.mk (Hd.mk none 0 0) [])).cells).toArray]) body12 rfl (Ss := []) (List.Perm.refl _) (n_New 0 1 2 hr_a8_3 (by simp [newErr, StateR.abs, risingP]))) ?_
  rintro I8 L8 v8 hI8 ⟨Ss8, rfl, ⟨b8, ⟨x8, S8a, S8b, S8c, S8d, hx8, rfl, ho8a, ho8b, ho8c, ho8d⟩, rfl⟩⟩
  refine EL_perm (nm_5 _ _ _ _ _ _) ?_
  have hq8 : x8.abs = aw0 := hx8
  refine EL_s rfl rfl rfl (os_move rfl) ?_
  refine EL_s rfl rfl rfl (os_extract rfl rfl) ?_
  refine EL_s rfl rfl rfl (os_extract rfl rfl) ?_
  refine EL_s rfl rfl rfl (os_assign rfl) ?_
  refine EL_s rfl rfl rfl (os_assign rfl) ?_
  refine EL_nil ?_
  refine EQ_then (EQ_wp ?_)
  refine EW_seq ?_
  refine EW_seq ?_
  -- region 2  law.go:60
  refine EW_region ?_
  refine EL_s rfl rfl rfl (os_move rfl) ?_
  refine EL_s rfl rfl rfl (os_neq rfl rfl) ?_
  refine EL_s rfl rfl rfl (os_move rfl) ?_
  refine EL_joint 3 16 (.bool ((!decide ((0 : Int) = 0)) || false)) ?_ ?_
  · skip
    refine ES_case (!decide ((0 : Int) = 0)) (fun hg13 => ?_) (fun hg13 => ?_)
    · have hg13_ := hg13
      try simp only [Bool.or_eq_true, Bool.and_eq_true, Bool.or_eq_false_iff, Bool.and_eq_false_iff, decide_eq_true_eq, decide_eq_false_iff_not, Bool.not_eq_true', Bool.not_eq_false', Int.natCast_inj, Int.ofNat_lt, Int.ofNat_le] at hg13_
      refine ES_no rfl hg13 rfl rfl rfl rfl ?_
      refine ES_no rfl hg13 rfl rfl rfl rfl ?_
      refine ES_s rfl rfl rfl (os_pick_t' rfl hg13 rfl) ?_
      exact ES_fin 3 rfl rfl (by rw [hg13]; rfl)
    · have hg13_ := hg13
      try simp only [Bool.or_eq_true, Bool.and_eq_true, Bool.or_eq_false_iff, Bool.and_eq_false_iff, decide_eq_true_eq, decide_eq_false_iff_not, Bool.not_eq_true', Bool.not_eq_false', Int.natCast_inj, Int.ofNat_lt, Int.ofNat_le] at hg13_
      refine ES_yes (j := 2) (b := false) rfl rfl rfl hg13 rfl rfl (os_move rfl) ?_
      refine ES_yes (j := 2) (b := false) rfl rfl rfl hg13 rfl rfl (os_eql_pn rfl rfl unnode) ?_
      refine ES_s rfl rfl rfl (os_pick_f' rfl hg13 rfl) ?_
      exact ES_fin 3 rfl rfl (by rw [hg13]; rfl)
  refine EL_s rfl rfl rfl (os_move rfl) ?_
  refine EL_joint 4 21 (.bool (((!decide ((0 : Int) = 0)) || false) || (!decide (((x8.abs).lead) = (-1))))) ?_ ?_
  · skip
    refine ES_case ((!decide ((0 : Int) = 0)) || false) (fun hg17 => ?_) (fun hg17 => ?_)
    · have hg17_ := hg17
      try simp only [Bool.or_eq_true, Bool.and_eq_true, Bool.or_eq_false_iff, Bool.and_eq_false_iff, decide_eq_true_eq, decide_eq_false_iff_not, Bool.not_eq_true', Bool.not_eq_false', Int.natCast_inj, Int.ofNat_lt, Int.ofNat_le] at hg17_
      refine ES_no rfl hg17 rfl rfl rfl rfl ?_
      refine ES_no rfl hg17 rfl rfl rfl rfl ?_
      refine ES_no rfl hg17 rfl rfl rfl rfl ?_
      refine ES_s rfl rfl rfl (os_pick_t' rfl hg17 rfl) ?_
      exact ES_fin 4 rfl rfl (by rw [hg17]; rfl)
    · have hg17_ := hg17
      try simp only [Bool.or_eq_true, Bool.and_eq_true, Bool.or_eq_false_iff, Bool.and_eq_false_iff, decide_eq_true_eq, decide_eq_false_iff_not, Bool.not_eq_true', Bool.not_eq_false', Int.natCast_inj, Int.ofNat_lt, Int.ofNat_le] at hg17_
      refine ES_yes (j := 6) (b := false) rfl rfl rfl hg17 rfl rfl (os_move rfl) ?_
      refine ES_yes (j := 6) (b := false) rfl rfl rfl hg17 rfl rfl (os_call (vs := [(.pointer (some ⟨b8, 0, none⟩))]) body33 rfl (n_Lead (NodeAt.intro x8 ho8a ho8b ho8c ho8d) (incl_mid [] [_, _, _, _, _] _))) ?_
      refine ES_yes (j := 6) (b := false) rfl rfl rfl hg17 rfl rfl (os_neq rfl rfl) ?_
      refine ES_s rfl rfl rfl (os_pick_f' rfl hg17 rfl) ?_
      exact ES_fin 4 rfl rfl (by rw [hg17]; rfl)
  refine EL_nil ?_
  refine EQ_then (EQ_wp ?_)
  refine EW_cond rfl (fun hc21 => ?_) (fun hc21 => ?_)
  · have hb21 := hc21
    try simp only [Bool.or_eq_true, Bool.and_eq_true, Bool.or_eq_false_iff, Bool.and_eq_false_iff, decide_eq_true_eq, decide_eq_false_iff_not, Bool.not_eq_true', Bool.not_eq_false', Int.natCast_inj, Int.ofNat_lt, Int.ofNat_le] at hc21
    exfalso; rw [hq8] at hc21; simp [aw0] at hc21
  · have hb21 := hc21
    try simp only [Bool.or_eq_true, Bool.and_eq_true, Bool.or_eq_false_iff, Bool.and_eq_false_iff, decide_eq_true_eq, decide_eq_false_iff_not, Bool.not_eq_true', Bool.not_eq_false', Int.natCast_inj, Int.ofNat_lt, Int.ofNat_le] at hc21
    refine EW_skip ?_
    refine EQ_then (EQ_wp ?_)
    refine EW_seq ?_
    -- region 4  law.go:63
    refine EW_region ?_
    refine EL_s rfl rfl rfl (os_move rfl) ?_
    refine EL_x rfl rfl (ox_callN (vs := [(.pointer (some ⟨b8, 0, none⟩))]) body19 rfl (pl_0_5 _ _ _ _ _ _) (n_Tick (NodeAt.intro x8 ho8a ho8b ho8c ho8d) (by rw [hq8]; exact aw_few0) (by rw [hq8]; simp [aw0]) (by rw [hq8]; simp [aw0]))) ?_
    rintro I23 L23 v23 hI23 ⟨Ss23, rfl, ⟨x23, S23a, S23b, S23c, S23d, hx23, rfl, ho23a, ho23b, ho23c, ho23d⟩, ⟨y23, rfl, hy23, hay23⟩⟩
    refine EL_perm (nm_5 _ _ _ _ _ _) ?_
    have hq23 : x23.abs = aw1 := by rw [hx23, hq8, aw_tick1]
    refine EL_nil ?_
    refine EQ_then (EQ_wp ?_)
    refine EW_seq ?_
    -- region 5  law.go:64
    refine EW_region ?_
    refine EL_s rfl rfl rfl (os_move rfl) ?_
    refine EL_x rfl rfl (ox_callN (vs := [(.pointer (some ⟨b8, 0, none⟩))]) body19 rfl (pl_0_5 _ _ _ _ _ _) (n_Tick (NodeAt.intro x23 ho23a ho23b ho23c ho23d) (by rw [hq23]; exact aw_few1) (by rw [hq23]; simp [aw1]) (by rw [hq23]; simp [aw1]))) ?_
    rintro I25 L25 v25 hI25 ⟨Ss25, rfl, ⟨x25, S25a, S25b, S25c, S25d, hx25, rfl, ho25a, ho25b, ho25c, ho25d⟩, ⟨y25, rfl, hy25, hay25⟩⟩
    refine EL_perm (nm_5 _ _ _ _ _ _) ?_
    have hq25 : x25.abs = aw2 := by rw [hx25, hq23, aw_tick2]
    refine EL_nil ?_
    refine EQ_then (EQ_wp ?_)
    refine EW_seq ?_
    -- region 6  law.go:65
    refine EW_region ?_
    refine EL_s rfl rfl rfl (os_move rfl) ?_
    refine EL_a rfl rfl rfl (oa_slice [_] sl39 z5 rfl rfl rfl rfl) ?_
    intro b28
    have hob28 : OwnR rByte I25 5 (Sl.mk (Hd.mk (some ⟨b28, 0, none⟩) 1 1) [(120 : UInt8)]) [(b28, .cells _ 5)] := OwnR.lit rfl rfl (by unfold maxLen; omega) (by decide) (fun x hx => by simp only [List.mem_cons, List.not_mem_nil, or_false] at hx; rcases hx with rfl <;> first | exact trivial)
    refine EL_y rfl rfl rfl (ox_mark rfl unby unu8 (.head .head)) ?_
    rintro L29 v29 ⟨rfl, rfl⟩
    have hg29 : FRow rByte I25 [[(b28, .cells #[.int .u8 120] 5 (1, 2))]] (Sl.mk (Hd.mk (some ⟨b28, 0, none⟩) 1 1) [(120 : UInt8)]) := frow_one 120 own_head
    refine EL_x rfl rfl (ox_callN (vs := [(.pointer (some ⟨b8, 0, none⟩)), ((Sl.mk (Hd.mk (some ⟨b28, 0, none⟩) 1 1) [(120 : UInt8)]).v)]) body31 rfl (pl_1_5 _ _ _ _ _ _ _) (n_Propose (NodeAt.intro x25 ho25a ho25b ho25c ho25d) (FRow.mono hg29 (.refl _) (incl_mid [] [_] _)) (by rw [hq25]; exact aw_few2) (by rw [hq25]; simp [aw2]) (by rw [hq25]; simp [aw2]) (by rw [hq25]; simp [aw2]))) ?_
    rintro I30 L30 v30 hI30 ⟨Ss30, rfl, ⟨x30, S30a, S30b, S30c, S30d, hx30, rfl, ho30a, ho30b, ho30c, ho30d⟩, ⟨y30, rfl, hy30, hay30⟩⟩
    refine EL_perm (nm_5 _ _ _ _ _ _) ?_
    have hq30 : x30.abs = aw3 := by rw [hx30, hq25]; exact congrArg Prod.fst aw_prop
    have hp30 : x25.abs.propose [120] = (aw3, 2, [], 0) := by rw [hq25]; exact aw_prop
    have hlen30 : y30.h.n = 0 := by have hz : y30.xs.map Msg.abs = [] := by rw [hay30]; exact congrArg (fun p => p.2.2.1) hp30
                                    rw [FRow.len hy30, List.map_eq_nil_iff.1 hz]; rfl
    have htm30 : x30.Term = 1 := congrArg NodeP.Term hq30
    refine EL_s rfl rfl rfl (os_move rfl) ?_
    refine EL_s rfl rfl rfl (os_extract rfl rfl) ?_
    refine EL_s rfl rfl rfl (os_extract rfl rfl) ?_
    refine EL_s rfl rfl rfl (os_extract rfl rfl) ?_
    refine EL_s rfl rfl rfl (os_assign rfl) ?_
    refine EL_s rfl rfl rfl (os_assign rfl) ?_
    refine EL_s rfl rfl rfl (os_assign rfl) ?_
    refine EL_nil ?_
    refine EQ_then (EQ_wp ?_)
    refine EW_seq ?_
    -- region 7  law.go:66
    refine EW_region ?_
    refine EL_s rfl rfl rfl (os_move rfl) ?_
    refine EL_s rfl rfl rfl (os_call (vs := [(.pointer (some ⟨b8, 0, none⟩))]) body30 rfl (n_Role (NodeAt.intro x30 ho30a ho30b ho30c ho30d) (incl_mid [] [_, _, _, _, _] _))) ?_
    refine EL_s rfl rfl rfl (os_eql rfl rfl) ?_
    refine EL_s rfl rfl rfl (os_move rfl) ?_
    refine EL_joint 3 40 (.bool ((decide (((x30.abs).role) = 3)) && (decide ((((x25.abs).propose (Sl.mk (Hd.mk (some ⟨b28, 0, none⟩) 1 1) [(120 : UInt8)]).xs).2.2.2) = 0)))) ?_ ?_
    · skip
      refine ES_case (decide (((x30.abs).role) = 3)) (fun hg37 => ?_) (fun hg37 => ?_)
      · have hg37_ := hg37
        try simp only [Bool.or_eq_true, Bool.and_eq_true, Bool.or_eq_false_iff, Bool.and_eq_false_iff, decide_eq_true_eq, decide_eq_false_iff_not, Bool.not_eq_true', Bool.not_eq_false', Int.natCast_inj, Int.ofNat_lt, Int.ofNat_le] at hg37_
        refine ES_yes (j := 3) (b := true) rfl rfl rfl hg37 rfl rfl (os_move rfl) ?_
        refine ES_yes (j := 3) (b := true) rfl rfl rfl hg37 rfl rfl (os_eql rfl rfl) ?_
        refine ES_s rfl rfl rfl (os_pick_t' rfl hg37 rfl) ?_
        exact ES_fin 3 rfl rfl (by rw [hg37]; rfl)
      · have hg37_ := hg37
        try simp only [Bool.or_eq_true, Bool.and_eq_true, Bool.or_eq_false_iff, Bool.and_eq_false_iff, decide_eq_true_eq, decide_eq_false_iff_not, Bool.not_eq_true', Bool.not_eq_false', Int.natCast_inj, Int.ofNat_lt, Int.ofNat_le] at hg37_
        refine ES_no rfl hg37 rfl rfl rfl rfl ?_
        refine ES_no rfl hg37 rfl rfl rfl rfl ?_
        refine ES_s rfl rfl rfl (os_pick_f' rfl hg37 rfl) ?_
        exact ES_fin 3 rfl rfl (by rw [hg37]; rfl)
    refine EL_s rfl rfl rfl (os_move rfl) ?_
    refine EL_joint 3 44 (.bool (((decide (((x30.abs).role) = 3)) && (decide ((((x25.abs).propose (Sl.mk (Hd.mk (some ⟨b28, 0, none⟩) 1 1) [(120 : UInt8)]).xs).2.2.2) = 0))) && (decide ((((((x25.abs).propose (Sl.mk (Hd.mk (some ⟨b28, 0, none⟩) 1 1) [(120 : UInt8)]).xs).2.1) : Nat) : Int) = 2)))) ?_ ?_
    · skip
      refine ES_case ((decide (((x30.abs).role) = 3)) && (decide ((((x25.abs).propose (Sl.mk (Hd.mk (some ⟨b28, 0, none⟩) 1 1) [(120 : UInt8)]).xs).2.2.2) = 0))) (fun hg41 => ?_) (fun hg41 => ?_)
      · have hg41_ := hg41
        try simp only [Bool.or_eq_true, Bool.and_eq_true, Bool.or_eq_false_iff, Bool.and_eq_false_iff, decide_eq_true_eq, decide_eq_false_iff_not, Bool.not_eq_true', Bool.not_eq_false', Int.natCast_inj, Int.ofNat_lt, Int.ofNat_le] at hg41_
        refine ES_yes (j := 7) (b := true) rfl rfl rfl hg41 rfl rfl (os_move rfl) ?_
        refine ES_yes (j := 7) (b := true) rfl rfl rfl hg41 rfl rfl (os_eql rfl rfl) ?_
        refine ES_s rfl rfl rfl (os_pick_t' rfl hg41 rfl) ?_
        exact ES_fin 3 rfl rfl (by rw [hg41]; rfl)
      · have hg41_ := hg41
        try simp only [Bool.or_eq_true, Bool.and_eq_true, Bool.or_eq_false_iff, Bool.and_eq_false_iff, decide_eq_true_eq, decide_eq_false_iff_not, Bool.not_eq_true', Bool.not_eq_false', Int.natCast_inj, Int.ofNat_lt, Int.ofNat_le] at hg41_
        refine ES_no rfl hg41 rfl rfl rfl rfl ?_
        refine ES_no rfl hg41 rfl rfl rfl rfl ?_
        refine ES_s rfl rfl rfl (os_pick_f' rfl hg41 rfl) ?_
        exact ES_fin 3 rfl rfl (by rw [hg41]; rfl)
    refine EL_s rfl rfl rfl (os_move rfl) ?_
    refine EL_joint 4 49 (.bool ((((decide (((x30.abs).role) = 3)) && (decide ((((x25.abs).propose (Sl.mk (Hd.mk (some ⟨b28, 0, none⟩) 1 1) [(120 : UInt8)]).xs).2.2.2) = 0))) && (decide ((((((x25.abs).propose (Sl.mk (Hd.mk (some ⟨b28, 0, none⟩) 1 1) [(120 : UInt8)]).xs).2.1) : Nat) : Int) = 2))) && (decide (((y30.h.n : Nat) : Int) = 0)))) ?_ ?_
    · skip
      refine ES_case (((decide (((x30.abs).role) = 3)) && (decide ((((x25.abs).propose (Sl.mk (Hd.mk (some ⟨b28, 0, none⟩) 1 1) [(120 : UInt8)]).xs).2.2.2) = 0))) && (decide ((((((x25.abs).propose (Sl.mk (Hd.mk (some ⟨b28, 0, none⟩) 1 1) [(120 : UInt8)]).xs).2.1) : Nat) : Int) = 2))) (fun hg45 => ?_) (fun hg45 => ?_)
      · have hg45_ := hg45
        try simp only [Bool.or_eq_true, Bool.and_eq_true, Bool.or_eq_false_iff, Bool.and_eq_false_iff, decide_eq_true_eq, decide_eq_false_iff_not, Bool.not_eq_true', Bool.not_eq_false', Int.natCast_inj, Int.ofNat_lt, Int.ofNat_le] at hg45_
        refine ES_yes (j := 11) (b := true) rfl rfl rfl hg45 rfl rfl (os_move rfl) ?_
        have hl47 := (show y30.h.n = y30.xs.length from FRow.len hy30)
        refine ES_yes (j := 11) (b := true) rfl rfl rfl hg45 rfl rfl (os_len rfl sl49) ?_
        refine ES_yes (j := 11) (b := true) rfl rfl rfl hg45 rfl rfl (os_eql rfl rfl) ?_
        refine ES_s rfl rfl rfl (os_pick_t' rfl hg45 rfl) ?_
        exact ES_fin 4 rfl rfl (by rw [hg45]; rfl)
      · have hg45_ := hg45
        try simp only [Bool.or_eq_true, Bool.and_eq_true, Bool.or_eq_false_iff, Bool.and_eq_false_iff, decide_eq_true_eq, decide_eq_false_iff_not, Bool.not_eq_true', Bool.not_eq_false', Int.natCast_inj, Int.ofNat_lt, Int.ofNat_le] at hg45_
        refine ES_no rfl hg45 rfl rfl rfl rfl ?_
        refine ES_no rfl hg45 rfl rfl rfl rfl ?_
        refine ES_no rfl hg45 rfl rfl rfl rfl ?_
        refine ES_s rfl rfl rfl (os_pick_f' rfl hg45 rfl) ?_
        exact ES_fin 4 rfl rfl (by rw [hg45]; rfl)
    refine EL_s rfl rfl rfl (os_move rfl) ?_
    refine EL_joint 4 54 (.bool (((((decide (((x30.abs).role) = 3)) && (decide ((((x25.abs).propose (Sl.mk (Hd.mk (some ⟨b28, 0, none⟩) 1 1) [(120 : UInt8)]).xs).2.2.2) = 0))) && (decide ((((((x25.abs).propose (Sl.mk (Hd.mk (some ⟨b28, 0, none⟩) 1 1) [(120 : UInt8)]).xs).2.1) : Nat) : Int) = 2))) && (decide (((y30.h.n : Nat) : Int) = 0))) && (decide (((((x30.abs).commit) : Nat) : Int) = 2)))) ?_ ?_
    · skip
      refine ES_case ((((decide (((x30.abs).role) = 3)) && (decide ((((x25.abs).propose (Sl.mk (Hd.mk (some ⟨b28, 0, none⟩) 1 1) [(120 : UInt8)]).xs).2.2.2) = 0))) && (decide ((((((x25.abs).propose (Sl.mk (Hd.mk (some ⟨b28, 0, none⟩) 1 1) [(120 : UInt8)]).xs).2.1) : Nat) : Int) = 2))) && (decide (((y30.h.n : Nat) : Int) = 0))) (fun hg50 => ?_) (fun hg50 => ?_)
      · have hg50_ := hg50
        try simp only [Bool.or_eq_true, Bool.and_eq_true, Bool.or_eq_false_iff, Bool.and_eq_false_iff, decide_eq_true_eq, decide_eq_false_iff_not, Bool.not_eq_true', Bool.not_eq_false', Int.natCast_inj, Int.ofNat_lt, Int.ofNat_le] at hg50_
        refine ES_yes (j := 16) (b := true) rfl rfl rfl hg50 rfl rfl (os_move rfl) ?_
        refine ES_yes (j := 16) (b := true) rfl rfl rfl hg50 rfl rfl (os_call (vs := [(.pointer (some ⟨b8, 0, none⟩))]) body15 rfl (n_Commit (NodeAt.intro x30 ho30a ho30b ho30c ho30d) (incl_mid [] [_, _, _, _, _] _))) ?_
        refine ES_yes (j := 16) (b := true) rfl rfl rfl hg50 rfl rfl (os_eql rfl rfl) ?_
        refine ES_s rfl rfl rfl (os_pick_t' rfl hg50 rfl) ?_
        exact ES_fin 4 rfl rfl (by rw [hg50]; rfl)
      · have hg50_ := hg50
        try simp only [Bool.or_eq_true, Bool.and_eq_true, Bool.or_eq_false_iff, Bool.and_eq_false_iff, decide_eq_true_eq, decide_eq_false_iff_not, Bool.not_eq_true', Bool.not_eq_false', Int.natCast_inj, Int.ofNat_lt, Int.ofNat_le] at hg50_
        refine ES_no rfl hg50 rfl rfl rfl rfl ?_
        refine ES_no rfl hg50 rfl rfl rfl rfl ?_
        refine ES_no rfl hg50 rfl rfl rfl rfl ?_
        refine ES_s rfl rfl rfl (os_pick_f' rfl hg50 rfl) ?_
        exact ES_fin 4 rfl rfl (by rw [hg50]; rfl)
    refine EL_s rfl rfl rfl (os_move rfl) ?_
    refine EL_joint 8 63 (.bool ((((((decide (((x30.abs).role) = 3)) && (decide ((((x25.abs).propose (Sl.mk (Hd.mk (some ⟨b28, 0, none⟩) 1 1) [(120 : UInt8)]).xs).2.2.2) = 0))) && (decide ((((((x25.abs).propose (Sl.mk (Hd.mk (some ⟨b28, 0, none⟩) 1 1) [(120 : UInt8)]).xs).2.1) : Nat) : Int) = 2))) && (decide (((y30.h.n : Nat) : Int) = 0))) && (decide (((((x30.abs).commit) : Nat) : Int) = 2))) && (decide (((x30.Term : Nat) : Int) = 1)))) ?_ ?_
    · skip
      refine ES_case (((((decide (((x30.abs).role) = 3)) && (decide ((((x25.abs).propose (Sl.mk (Hd.mk (some ⟨b28, 0, none⟩) 1 1) [(120 : UInt8)]).xs).2.2.2) = 0))) && (decide ((((((x25.abs).propose (Sl.mk (Hd.mk (some ⟨b28, 0, none⟩) 1 1) [(120 : UInt8)]).xs).2.1) : Nat) : Int) = 2))) && (decide (((y30.h.n : Nat) : Int) = 0))) && (decide (((((x30.abs).commit) : Nat) : Int) = 2))) (fun hg55 => ?_) (fun hg55 => ?_)
      · have hg55_ := hg55
        try simp only [Bool.or_eq_true, Bool.and_eq_true, Bool.or_eq_false_iff, Bool.and_eq_false_iff, decide_eq_true_eq, decide_eq_false_iff_not, Bool.not_eq_true', Bool.not_eq_false', Int.natCast_inj, Int.ofNat_lt, Int.ofNat_le] at hg55_
        refine ES_yes (j := 21) (b := true) rfl rfl rfl hg55 rfl rfl (os_move rfl) ?_
        refine ES_yes (j := 21) (b := true) rfl rfl rfl hg55 rfl rfl (os_nilCheck rfl) ?_
        refine ES_yes (j := 21) (b := true) rfl rfl rfl hg55 rfl rfl (os_field rfl fl47_0) ?_
        refine ES_yes (j := 21) (b := true) rfl rfl rfl hg55 rfl rfl (os_field rfl fl36_0) ?_
        refine ES_yes (j := 21) (b := true) rfl rfl rfl hg55 rfl rfl (os_field rfl fl33_0) ?_
        refine ES_yes (j := 21) (b := true) rfl rfl rfl hg55 rfl rfl (os_load_one rfl one22 (cells_own own_head rfl)) ?_
        refine ES_yes (j := 21) (b := true) rfl rfl rfl hg55 rfl rfl (os_eql rfl rfl) ?_
        refine ES_s rfl rfl rfl (os_pick_t' rfl hg55 rfl) ?_
        exact ES_fin 8 rfl rfl (by rw [hg55]; rfl)
      · have hg55_ := hg55
        try simp only [Bool.or_eq_true, Bool.and_eq_true, Bool.or_eq_false_iff, Bool.and_eq_false_iff, decide_eq_true_eq, decide_eq_false_iff_not, Bool.not_eq_true', Bool.not_eq_false', Int.natCast_inj, Int.ofNat_lt, Int.ofNat_le] at hg55_
        refine ES_no rfl hg55 rfl rfl rfl rfl ?_
        refine ES_no rfl hg55 rfl rfl rfl rfl ?_
        refine ES_no rfl hg55 rfl rfl rfl rfl ?_
        refine ES_no rfl hg55 rfl rfl rfl rfl ?_
        refine ES_no rfl hg55 rfl rfl rfl rfl ?_
        refine ES_no rfl hg55 rfl rfl rfl rfl ?_
        refine ES_no rfl hg55 rfl rfl rfl rfl ?_
        refine ES_s rfl rfl rfl (os_pick_f' rfl hg55 rfl) ?_
        exact ES_fin 8 rfl rfl (by rw [hg55]; rfl)
    refine EL_s rfl rfl rfl (os_assign rfl) ?_
    refine EL_nil ?_
    refine EQ_then (EQ_wp ?_)
    refine EW_ret ?_
    exact pc_ret1 Try.results11 (rv_tmp rfl) (hI8.trans (hI23.trans (hI25.trans hI30))) (((((((Incl.refl _).skip _).skip _).skip _).skip _).skip _).skip _) (by refine congrArg Value.bool ?_; show _ = true; simp only [hp30, hq30, hlen30, htm30]; rfl) (.inl rfl)

set_option maxHeartbeats 1000000 in
theorem n_Newb {I : Gh} {L : List Seg} (id : Int) (n : Int) (limit : Int) {s : StateR} (hs : StateR.Ok I s) (hp0 : newErr id n limit s.abs ≠ 0) : PC Try.prog 12 #[.int .i64 id, .int .i64 n, .int .i64 limit, .agg (s.cells).toArray] I L fun K v => v = .tuple #[.pointer none, .int .i64 (newErr id n limit s.abs)] := by
  refine PC.of (n := 78) Try.func12 rfl Try.ntmps12 rfl fun I0 L0 hI0 hL0 => ?_
  have hs := hs.mono hI0
  have hsv := hs.Vote
  have hst := hs.Term
  have hsb := hs.Base
  have hrn : 1 = 1 := rfl
  refine EW_seq ?_
  -- region 0  raft.go:98
  refine EW_region ?_
  refine EL_a rfl rfl rfl (oa_box rfl) ?_
  intro b7
  refine EL_s rfl rfl rfl (os_assign rfl) ?_
  refine EL_s rfl rfl rfl (os_assign rfl) ?_
  refine EL_nil ?_
  refine EQ_then (EQ_wp ?_)
  refine EW_seq ?_
  refine EW_seq ?_
  -- region 1  raft.go:99
  refine EW_region ?_
  refine EL_s rfl rfl rfl (os_move rfl) ?_
  refine EL_s rfl rfl rfl (os_lss rfl rfl) ?_
  refine EL_s rfl rfl rfl (os_move rfl) ?_
  refine EL_joint 3 15 (.bool ((decide (n < 1)) || (decide (5 < n)))) ?_ ?_
  · skip
    refine ES_case (decide (n < 1)) (fun hg12 => ?_) (fun hg12 => ?_)
    · have hg12_ := hg12
      try simp only [Bool.or_eq_true, Bool.and_eq_true, Bool.or_eq_false_iff, Bool.and_eq_false_iff, decide_eq_true_eq, decide_eq_false_iff_not, Bool.not_eq_true', Bool.not_eq_false', Int.natCast_inj, Int.ofNat_lt, Int.ofNat_le] at hg12_
      refine ES_no rfl hg12 rfl rfl rfl rfl ?_
      refine ES_no rfl hg12 rfl rfl rfl rfl ?_
      refine ES_s rfl rfl rfl (os_pick_t' rfl hg12 rfl) ?_
      exact ES_fin 3 rfl rfl (by rw [hg12]; rfl)
    · have hg12_ := hg12
      try simp only [Bool.or_eq_true, Bool.and_eq_true, Bool.or_eq_false_iff, Bool.and_eq_false_iff, decide_eq_true_eq, decide_eq_false_iff_not, Bool.not_eq_true', Bool.not_eq_false', Int.natCast_inj, Int.ofNat_lt, Int.ofNat_le] at hg12_
      refine ES_yes (j := 2) (b := false) rfl rfl rfl hg12 rfl rfl (os_move rfl) ?_
      refine ES_yes (j := 2) (b := false) rfl rfl rfl hg12 rfl rfl (os_gtr rfl rfl) ?_
      refine ES_s rfl rfl rfl (os_pick_f' rfl hg12 rfl) ?_
      exact ES_fin 3 rfl rfl (by rw [hg12]; rfl)
  refine EL_s rfl rfl rfl (os_move rfl) ?_
  refine EL_joint 3 19 (.bool (((decide (n < 1)) || (decide (5 < n))) || (decide (id < 0)))) ?_ ?_
  · skip
    refine ES_case ((decide (n < 1)) || (decide (5 < n))) (fun hg16 => ?_) (fun hg16 => ?_)
    · have hg16_ := hg16
      try simp only [Bool.or_eq_true, Bool.and_eq_true, Bool.or_eq_false_iff, Bool.and_eq_false_iff, decide_eq_true_eq, decide_eq_false_iff_not, Bool.not_eq_true', Bool.not_eq_false', Int.natCast_inj, Int.ofNat_lt, Int.ofNat_le] at hg16_
      refine ES_no rfl hg16 rfl rfl rfl rfl ?_
      refine ES_no rfl hg16 rfl rfl rfl rfl ?_
      refine ES_s rfl rfl rfl (os_pick_t' rfl hg16 rfl) ?_
      exact ES_fin 3 rfl rfl (by rw [hg16]; rfl)
    · have hg16_ := hg16
      try simp only [Bool.or_eq_true, Bool.and_eq_true, Bool.or_eq_false_iff, Bool.and_eq_false_iff, decide_eq_true_eq, decide_eq_false_iff_not, Bool.not_eq_true', Bool.not_eq_false', Int.natCast_inj, Int.ofNat_lt, Int.ofNat_le] at hg16_
      refine ES_yes (j := 6) (b := false) rfl rfl rfl hg16 rfl rfl (os_move rfl) ?_
      refine ES_yes (j := 6) (b := false) rfl rfl rfl hg16 rfl rfl (os_lss rfl rfl) ?_
      refine ES_s rfl rfl rfl (os_pick_f' rfl hg16 rfl) ?_
      exact ES_fin 3 rfl rfl (by rw [hg16]; rfl)
  refine EL_s rfl rfl rfl (os_move rfl) ?_
  refine EL_joint 4 24 (.bool ((((decide (n < 1)) || (decide (5 < n))) || (decide (id < 0))) || (decide (n ≤ id)))) ?_ ?_
  · skip
    refine ES_case (((decide (n < 1)) || (decide (5 < n))) || (decide (id < 0))) (fun hg20 => ?_) (fun hg20 => ?_)
    · have hg20_ := hg20
      try simp only [Bool.or_eq_true, Bool.and_eq_true, Bool.or_eq_false_iff, Bool.and_eq_false_iff, decide_eq_true_eq, decide_eq_false_iff_not, Bool.not_eq_true', Bool.not_eq_false', Int.natCast_inj, Int.ofNat_lt, Int.ofNat_le] at hg20_
      refine ES_no rfl hg20 rfl rfl rfl rfl ?_
      refine ES_no rfl hg20 rfl rfl rfl rfl ?_
      refine ES_no rfl hg20 rfl rfl rfl rfl ?_
      refine ES_s rfl rfl rfl (os_pick_t' rfl hg20 rfl) ?_
      exact ES_fin 4 rfl rfl (by rw [hg20]; rfl)
    · have hg20_ := hg20
      try simp only [Bool.or_eq_true, Bool.and_eq_true, Bool.or_eq_false_iff, Bool.and_eq_false_iff, decide_eq_true_eq, decide_eq_false_iff_not, Bool.not_eq_true', Bool.not_eq_false', Int.natCast_inj, Int.ofNat_lt, Int.ofNat_le] at hg20_
      refine ES_yes (j := 10) (b := false) rfl rfl rfl hg20 rfl rfl (os_move rfl) ?_
      refine ES_yes (j := 10) (b := false) rfl rfl rfl hg20 rfl rfl (os_move rfl) ?_
      refine ES_yes (j := 10) (b := false) rfl rfl rfl hg20 rfl rfl (os_geq rfl rfl) ?_
      refine ES_s rfl rfl rfl (os_pick_f' rfl hg20 rfl) ?_
      exact ES_fin 4 rfl rfl (by rw [hg20]; rfl)
  refine EL_s rfl rfl rfl (os_move rfl) ?_
  refine EL_joint 3 28 (.bool (((((decide (n < 1)) || (decide (5 < n))) || (decide (id < 0))) || (decide (n ≤ id))) || (decide (limit < 1)))) ?_ ?_
  · skip
    refine ES_case ((((decide (n < 1)) || (decide (5 < n))) || (decide (id < 0))) || (decide (n ≤ id))) (fun hg25 => ?_) (fun hg25 => ?_)
    · have hg25_ := hg25
      try simp only [Bool.or_eq_true, Bool.and_eq_true, Bool.or_eq_false_iff, Bool.and_eq_false_iff, decide_eq_true_eq, decide_eq_false_iff_not, Bool.not_eq_true', Bool.not_eq_false', Int.natCast_inj, Int.ofNat_lt, Int.ofNat_le] at hg25_
      refine ES_no rfl hg25 rfl rfl rfl rfl ?_
      refine ES_no rfl hg25 rfl rfl rfl rfl ?_
      refine ES_s rfl rfl rfl (os_pick_t' rfl hg25 rfl) ?_
      exact ES_fin 3 rfl rfl (by rw [hg25]; rfl)
    · have hg25_ := hg25
      try simp only [Bool.or_eq_true, Bool.and_eq_true, Bool.or_eq_false_iff, Bool.and_eq_false_iff, decide_eq_true_eq, decide_eq_false_iff_not, Bool.not_eq_true', Bool.not_eq_false', Int.natCast_inj, Int.ofNat_lt, Int.ofNat_le] at hg25_
      refine ES_yes (j := 15) (b := false) rfl rfl rfl hg25 rfl rfl (os_move rfl) ?_
      refine ES_yes (j := 15) (b := false) rfl rfl rfl hg25 rfl rfl (os_lss rfl rfl) ?_
      refine ES_s rfl rfl rfl (os_pick_f' rfl hg25 rfl) ?_
      exact ES_fin 3 rfl rfl (by rw [hg25]; rfl)
  refine EL_s rfl rfl rfl (os_move rfl) ?_
  refine EL_joint 3 32 (.bool ((((((decide (n < 1)) || (decide (5 < n))) || (decide (id < 0))) || (decide (n ≤ id))) || (decide (limit < 1))) || (decide (1000 < limit)))) ?_ ?_
  · skip
    refine ES_case (((((decide (n < 1)) || (decide (5 < n))) || (decide (id < 0))) || (decide (n ≤ id))) || (decide (limit < 1))) (fun hg29 => ?_) (fun hg29 => ?_)
    · have hg29_ := hg29
      try simp only [Bool.or_eq_true, Bool.and_eq_true, Bool.or_eq_false_iff, Bool.and_eq_false_iff, decide_eq_true_eq, decide_eq_false_iff_not, Bool.not_eq_true', Bool.not_eq_false', Int.natCast_inj, Int.ofNat_lt, Int.ofNat_le] at hg29_
      refine ES_no rfl hg29 rfl rfl rfl rfl ?_
      refine ES_no rfl hg29 rfl rfl rfl rfl ?_
      refine ES_s rfl rfl rfl (os_pick_t' rfl hg29 rfl) ?_
      exact ES_fin 3 rfl rfl (by rw [hg29]; rfl)
    · have hg29_ := hg29
      try simp only [Bool.or_eq_true, Bool.and_eq_true, Bool.or_eq_false_iff, Bool.and_eq_false_iff, decide_eq_true_eq, decide_eq_false_iff_not, Bool.not_eq_true', Bool.not_eq_false', Int.natCast_inj, Int.ofNat_lt, Int.ofNat_le] at hg29_
      refine ES_yes (j := 19) (b := false) rfl rfl rfl hg29 rfl rfl (os_move rfl) ?_
      refine ES_yes (j := 19) (b := false) rfl rfl rfl hg29 rfl rfl (os_gtr rfl rfl) ?_
      refine ES_s rfl rfl rfl (os_pick_f' rfl hg29 rfl) ?_
      exact ES_fin 3 rfl rfl (by rw [hg29]; rfl)
  refine EL_nil ?_
  refine EQ_then (EQ_wp ?_)
  refine EW_cond rfl (fun hc32 => ?_) (fun hc32 => ?_)
  · have hb32 := hc32
    try simp only [Bool.or_eq_true, Bool.and_eq_true, Bool.or_eq_false_iff, Bool.and_eq_false_iff, decide_eq_true_eq, decide_eq_false_iff_not, Bool.not_eq_true', Bool.not_eq_false', Int.natCast_inj, Int.ofNat_lt, Int.ofNat_le] at hc32
    refine EW_seq ?_
    -- region 2  raft.go:100
    refine EW_region ?_
    refine EL_s rfl rfl rfl (os_assign rfl) ?_
    refine EL_s rfl rfl rfl (os_assign rfl) ?_
    refine EL_nil ?_
    refine EQ_then (EQ_wp ?_)
    refine EW_ret ?_
    refine EQ_then_ret (?_)
    exact pc_ret2 Try.results12 (rv_tmp rfl) (rv_tmp rfl) (.refl _) ((Incl.refl _).skip _) (by rw [show newErr id n limit s.abs = 1 from if_pos (by omega)]) (.inl rfl)
  · have hb32 := hc32
    try simp only [Bool.or_eq_true, Bool.and_eq_true, Bool.or_eq_false_iff, Bool.and_eq_false_iff, decide_eq_true_eq, decide_eq_false_iff_not, Bool.not_eq_true', Bool.not_eq_false', Int.natCast_inj, Int.ofNat_lt, Int.ofNat_le] at hc32
    refine EW_skip ?_
    refine EQ_then (EQ_wp ?_)
    refine EW_seq ?_
    refine EW_seq ?_
    -- region 3  raft.go:102
    refine EW_region ?_
    refine EL_s rfl rfl rfl (os_field rfl fl36_0) ?_
    refine EL_s rfl rfl rfl (os_field rfl fl33_1) ?_
    refine EL_s rfl rfl rfl (os_load_one rfl one3 (cells_own own_head rfl)) ?_
    refine EL_s rfl rfl rfl (os_lss rfl rfl) ?_
    refine EL_s rfl rfl rfl (os_move rfl) ?_
    refine EL_joint 6 43 (.bool ((decide (s.Vote < (-1))) || (decide (n ≤ s.Vote)))) ?_ ?_
    · skip
      refine ES_case (decide (s.Vote < (-1))) (fun hg37 => ?_) (fun hg37 => ?_)
      · have hg37_ := hg37
        try simp only [Bool.or_eq_true, Bool.and_eq_true, Bool.or_eq_false_iff, Bool.and_eq_false_iff, decide_eq_true_eq, decide_eq_false_iff_not, Bool.not_eq_true', Bool.not_eq_false', Int.natCast_inj, Int.ofNat_lt, Int.ofNat_le] at hg37_
        refine ES_no rfl hg37 rfl rfl rfl rfl ?_
        refine ES_no rfl hg37 rfl rfl rfl rfl ?_
        refine ES_no rfl hg37 rfl rfl rfl rfl ?_
        refine ES_no rfl hg37 rfl rfl rfl rfl ?_
        refine ES_no rfl hg37 rfl rfl rfl rfl ?_
        refine ES_s rfl rfl rfl (os_pick_t' rfl hg37 rfl) ?_
        exact ES_fin 6 rfl rfl (by rw [hg37]; rfl)
      · have hg37_ := hg37
        try simp only [Bool.or_eq_true, Bool.and_eq_true, Bool.or_eq_false_iff, Bool.and_eq_false_iff, decide_eq_true_eq, decide_eq_false_iff_not, Bool.not_eq_true', Bool.not_eq_false', Int.natCast_inj, Int.ofNat_lt, Int.ofNat_le] at hg37_
        refine ES_yes (j := 4) (b := false) rfl rfl rfl hg37 rfl rfl (os_field rfl fl36_0) ?_
        refine ES_yes (j := 4) (b := false) rfl rfl rfl hg37 rfl rfl (os_field rfl fl33_1) ?_
        refine ES_yes (j := 4) (b := false) rfl rfl rfl hg37 rfl rfl (os_load_one rfl one3 (cells_own own_head rfl)) ?_
        refine ES_yes (j := 4) (b := false) rfl rfl rfl hg37 rfl rfl (os_move rfl) ?_
        refine ES_yes (j := 4) (b := false) rfl rfl rfl hg37 rfl rfl (os_geq rfl rfl) ?_
        refine ES_s rfl rfl rfl (os_pick_f' rfl hg37 rfl) ?_
        exact ES_fin 6 rfl rfl (by rw [hg37]; rfl)
    refine EL_s rfl rfl rfl (os_move rfl) ?_
    refine EL_joint 10 54 (.bool (((decide (s.Vote < (-1))) || (decide (n ≤ s.Vote))) || (!(risingP (s.Entries.xs.map Entry.abs) s.BaseTerm s.Term)))) ?_ ?_
    · skip
      refine ES_case ((decide (s.Vote < (-1))) || (decide (n ≤ s.Vote))) (fun hg44 => ?_) (fun hg44 => ?_)
      · have hg44_ := hg44
        try simp only [Bool.or_eq_true, Bool.and_eq_true, Bool.or_eq_false_iff, Bool.and_eq_false_iff, decide_eq_true_eq, decide_eq_false_iff_not, Bool.not_eq_true', Bool.not_eq_false', Int.natCast_inj, Int.ofNat_lt, Int.ofNat_le] at hg44_
        refine ES_no rfl hg44 rfl rfl rfl rfl ?_
        refine ES_no rfl hg44 rfl rfl rfl rfl ?_
        refine ES_no rfl hg44 rfl rfl rfl rfl ?_
        refine ES_no rfl hg44 rfl rfl rfl rfl ?_
        refine ES_no rfl hg44 rfl rfl rfl rfl ?_
        refine ES_no rfl hg44 rfl rfl rfl rfl ?_
        refine ES_no rfl hg44 rfl rfl rfl rfl ?_
        refine ES_no rfl hg44 rfl rfl rfl rfl ?_
        refine ES_no rfl hg44 rfl rfl rfl rfl ?_
        refine ES_s rfl rfl rfl (os_pick_t' rfl hg44 rfl) ?_
        exact ES_fin 10 rfl rfl (by rw [hg44]; rfl)
      · have hg44_ := hg44
        try simp only [Bool.or_eq_true, Bool.and_eq_true, Bool.or_eq_false_iff, Bool.and_eq_false_iff, decide_eq_true_eq, decide_eq_false_iff_not, Bool.not_eq_true', Bool.not_eq_false', Int.natCast_inj, Int.ofNat_lt, Int.ofNat_le] at hg44_
        refine ES_yes (j := 11) (b := false) rfl rfl rfl hg44 rfl rfl (os_field rfl fl36_3) ?_
        refine ES_yes (j := 11) (b := false) rfl rfl rfl hg44 rfl rfl (os_load_one rfl one34 (cells_own own_head rfl)) ?_
        refine ES_yes (j := 11) (b := false) rfl rfl rfl hg44 rfl rfl (os_field rfl fl36_2) ?_
        refine ES_yes (j := 11) (b := false) rfl rfl rfl hg44 rfl rfl (os_load_one rfl one22 (cells_own own_head rfl)) ?_
        refine ES_yes (j := 11) (b := false) rfl rfl rfl hg44 rfl rfl (os_field rfl fl36_0) ?_
        refine ES_yes (j := 11) (b := false) rfl rfl rfl hg44 rfl rfl (os_field rfl fl33_0) ?_
        refine ES_yes (j := 11) (b := false) rfl rfl rfl hg44 rfl rfl (os_load_one rfl one22 (cells_own own_head rfl)) ?_
        refine ES_yes (j := 11) (b := false) rfl rfl rfl hg44 rfl rfl (os_call (vs := [(s.Entries.v), (.int .u64 ((s.BaseTerm : Nat) : Int)), (.int .u64 ((s.Term : Nat) : Int))]) body63 rfl (rising (FRow.mono hs.Entries (.refl _) (Incl.nil _)) s.BaseTerm s.Term)) ?_
        refine ES_yes (j := 11) (b := false) rfl rfl rfl hg44 rfl rfl (os_not rfl) ?_
        refine ES_s rfl rfl rfl (os_pick_f' rfl hg44 rfl) ?_
        exact ES_fin 10 rfl rfl (by rw [hg44]; rfl)
    refine EL_s rfl rfl rfl (os_move rfl) ?_
    refine EL_joint 4 59 (.bool ((((decide (s.Vote < (-1))) || (decide (n ≤ s.Vote))) || (!(risingP (s.Entries.xs.map Entry.abs) s.BaseTerm s.Term))) || (decide (4611686018427387904 < ((s.Base : Nat) : Int))))) ?_ ?_
    · skip
      refine ES_case (((decide (s.Vote < (-1))) || (decide (n ≤ s.Vote))) || (!(risingP (s.Entries.xs.map Entry.abs) s.BaseTerm s.Term))) (fun hg55 => ?_) (fun hg55 => ?_)
      · have hg55_ := hg55
        try simp only [Bool.or_eq_true, Bool.and_eq_true, Bool.or_eq_false_iff, Bool.and_eq_false_iff, decide_eq_true_eq, decide_eq_false_iff_not, Bool.not_eq_true', Bool.not_eq_false', Int.natCast_inj, Int.ofNat_lt, Int.ofNat_le] at hg55_
        refine ES_no rfl hg55 rfl rfl rfl rfl ?_
        refine ES_no rfl hg55 rfl rfl rfl rfl ?_
        refine ES_no rfl hg55 rfl rfl rfl rfl ?_
        refine ES_s rfl rfl rfl (os_pick_t' rfl hg55 rfl) ?_
        exact ES_fin 4 rfl rfl (by rw [hg55]; rfl)
      · have hg55_ := hg55
        try simp only [Bool.or_eq_true, Bool.and_eq_true, Bool.or_eq_false_iff, Bool.and_eq_false_iff, decide_eq_true_eq, decide_eq_false_iff_not, Bool.not_eq_true', Bool.not_eq_false', Int.natCast_inj, Int.ofNat_lt, Int.ofNat_le] at hg55_
        refine ES_yes (j := 22) (b := false) rfl rfl rfl hg55 rfl rfl (os_field rfl fl36_1) ?_
        refine ES_yes (j := 22) (b := false) rfl rfl rfl hg55 rfl rfl (os_load_one rfl one22 (cells_own own_head rfl)) ?_
        refine ES_yes (j := 22) (b := false) rfl rfl rfl hg55 rfl rfl (os_gtr rfl rfl) ?_
        refine ES_s rfl rfl rfl (os_pick_f' rfl hg55 rfl) ?_
        exact ES_fin 4 rfl rfl (by rw [hg55]; rfl)
    refine EL_s rfl rfl rfl (os_move rfl) ?_
    refine EL_joint 5 65 (.bool (((((decide (s.Vote < (-1))) || (decide (n ≤ s.Vote))) || (!(risingP (s.Entries.xs.map Entry.abs) s.BaseTerm s.Term))) || (decide (4611686018427387904 < ((s.Base : Nat) : Int)))) || (decide (4611686018427387904 < ((s.Term : Nat) : Int))))) ?_ ?_
    · skip
      refine ES_case ((((decide (s.Vote < (-1))) || (decide (n ≤ s.Vote))) || (!(risingP (s.Entries.xs.map Entry.abs) s.BaseTerm s.Term))) || (decide (4611686018427387904 < ((s.Base : Nat) : Int)))) (fun hg60 => ?_) (fun hg60 => ?_)
      · have hg60_ := hg60
        try simp only [Bool.or_eq_true, Bool.and_eq_true, Bool.or_eq_false_iff, Bool.and_eq_false_iff, decide_eq_true_eq, decide_eq_false_iff_not, Bool.not_eq_true', Bool.not_eq_false', Int.natCast_inj, Int.ofNat_lt, Int.ofNat_le] at hg60_
        refine ES_no rfl hg60 rfl rfl rfl rfl ?_
        refine ES_no rfl hg60 rfl rfl rfl rfl ?_
        refine ES_no rfl hg60 rfl rfl rfl rfl ?_
        refine ES_no rfl hg60 rfl rfl rfl rfl ?_
        refine ES_s rfl rfl rfl (os_pick_t' rfl hg60 rfl) ?_
        exact ES_fin 5 rfl rfl (by rw [hg60]; rfl)
      · have hg60_ := hg60
        try simp only [Bool.or_eq_true, Bool.and_eq_true, Bool.or_eq_false_iff, Bool.and_eq_false_iff, decide_eq_true_eq, decide_eq_false_iff_not, Bool.not_eq_true', Bool.not_eq_false', Int.natCast_inj, Int.ofNat_lt, Int.ofNat_le] at hg60_
        refine ES_yes (j := 27) (b := false) rfl rfl rfl hg60 rfl rfl (os_field rfl fl36_0) ?_
        refine ES_yes (j := 27) (b := false) rfl rfl rfl hg60 rfl rfl (os_field rfl fl33_0) ?_
        refine ES_yes (j := 27) (b := false) rfl rfl rfl hg60 rfl rfl (os_load_one rfl one22 (cells_own own_head rfl)) ?_
        refine ES_yes (j := 27) (b := false) rfl rfl rfl hg60 rfl rfl (os_gtr rfl rfl) ?_
        refine ES_s rfl rfl rfl (os_pick_f' rfl hg60 rfl) ?_
        exact ES_fin 5 rfl rfl (by rw [hg60]; rfl)
    refine EL_nil ?_
    refine EQ_then (EQ_wp ?_)
    refine EW_cond rfl (fun hc65 => ?_) (fun hc65 => ?_)
    · have hb65 := hc65
      try simp only [Bool.or_eq_true, Bool.and_eq_true, Bool.or_eq_false_iff, Bool.and_eq_false_iff, decide_eq_true_eq, decide_eq_false_iff_not, Bool.not_eq_true', Bool.not_eq_false', Int.natCast_inj, Int.ofNat_lt, Int.ofNat_le] at hc65
      refine EW_seq ?_
      -- region 4  raft.go:103
      refine EW_region ?_
      refine EL_s rfl rfl rfl (os_assign rfl) ?_
      refine EL_s rfl rfl rfl (os_assign rfl) ?_
      refine EL_nil ?_
      refine EQ_then (EQ_wp ?_)
      refine EW_ret ?_
      refine EQ_then_ret (?_)
      exact pc_ret2 Try.results12 (rv_tmp rfl) (rv_tmp rfl) (.refl _) ((Incl.refl _).skip _) (by rw [show newErr id n limit s.abs = 3 from (if_neg (by omega)).trans (if_pos (by simp only [StateR.abs]; rcases hc65 with (((h | h) | h) | h) | h; exact .inl h; exact .inr (.inl h); exact .inr (.inr (.inl h)); exact .inr (.inr (.inr (.inl (by omega)))); exact .inr (.inr (.inr (.inr (by omega))))))]) (.inl rfl)
    · have hb65 := hc65
      try simp only [Bool.or_eq_true, Bool.and_eq_true, Bool.or_eq_false_iff, Bool.and_eq_false_iff, decide_eq_true_eq, decide_eq_false_iff_not, Bool.not_eq_true', Bool.not_eq_false', Int.natCast_inj, Int.ofNat_lt, Int.ofNat_le] at hc65
      exfalso; apply hp0; refine (if_neg (by omega)).trans (if_neg ?_); simp only [StateR.abs, not_or, Bool.not_eq_false]; obtain ⟨⟨⟨⟨a1, a2⟩, a3⟩, a4⟩, a5⟩ := hc65; exact ⟨by omega, by omega, a3, by omega, by omega⟩


end Go.Proofs.Ytlhibbjnhdcffaa
