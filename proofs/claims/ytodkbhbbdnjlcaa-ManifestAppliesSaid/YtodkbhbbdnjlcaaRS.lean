/- Proved here: the part RS of the proof that the law of this seat returns true for every input; no condition. -/
import Derived.Test.YtodkbhbbdnjlcaaRK
import Derived.Test.YtodkbhbbdnjlcaaK
set_option maxRecDepth 20000
set_option linter.unusedVariables false
set_option linter.unusedSimpArgs false
namespace Go.Proofs.Ytodkbhbbdnjlcaa
open Go Go.Gl


def ecs (r : Er) : List Value := ecells r.reset r.ha r.hd r.sq
theorem ecs_one (r : Er) : ∀ x ∈ ecs r, x.oneCell' = true := by intro x hx; simp [ecs, ecells] at hx; rcases hx with rfl | rfl | rfl | rfl <;> rfl
/-- An edit that was given. -/
structure ErI (I : Gh) (r : Er) : Prop where
  add : Row I [] r.ha.a r.ha.n r.ha.c 6 (r.add.map rcells)
  ok : ∀ p ∈ r.add, p.Ok I
  drop : Row I [] r.hd.a r.hd.n r.hd.c 1 (u64s r.drop)
  sq0 : 0 ≤ r.sq
  sq1 : r.sq ≤ 18446744073709551615
theorem ErI.mono {I J : Gh} {r : Er} (h : ErI I r) (hI : I.le J) : ErI J r := ⟨h.add.mono hI (.refl _), fun p hp => (h.ok p hp).mono hI, h.drop.mono hI (.refl _), h.sq0, h.sq1⟩
structure EOwn (J : Gh) (a : Option Addr) (n c : Nat) (S : Seg) (qs : List Er) : Prop where
  row : OwnRow a n c S 35 4 (qs.map ecs)
  ok : ∀ q ∈ qs, q.Ok rcells J ∧ q.add.length ≤ 8
theorem EOwn.len {J : Gh} {a : Option Addr} {n c : Nat} {S : Seg} {qs : List Er} (h : EOwn J a n c S qs) : n = qs.length := by rw [h.row.1, List.length_map]
theorem EOwn.snoc {I J : Gh} {a a' : Option Addr} {n c n' c' : Nat} {S S' : Seg} {qs : List Er} {q : Er} (h : EOwn I a n c S qs) (ho : OwnRow a' n' c' S' 35 4 (qs.map ecs ++ [ecs q])) (hI : I.le J) (hq : q.Ok rcells J) (h8 : q.add.length ≤ 8) : EOwn J a' n' c' S' (qs ++ [q]) :=
  ⟨by rw [List.map_append]; exact ho, fun p hp => (List.mem_append.1 hp).elim (fun hp => ⟨(h.ok p hp).1.mono hI, (h.ok p hp).2⟩) (fun hp => by rw [List.mem_singleton.1 hp]; exact ⟨hq, h8⟩)⟩
theorem src_e {I : Gh} {L : List Seg} {b : Nat} {T : TypeId} (e : Er) : Src I ([(b, .cells ([Value.agg (ecs e).toArray].flatMap (·.cells.toList)).toArray T)] :: L) (some ⟨b, 0, none⟩) 1 4 [ecs e] :=
  src_lit [ecs e] rfl (by simp [ecs, ecells]) rfl (by decide) (by decide) (fun x hx => ecs_one e x (by simpa using hx))
theorem FOwn.set1 {cells : PF → List Value} {T : TypeId} {I J : Gh} {a : Option Addr} {n c : Nat} {S S' : Seg} {ps : List PF} {j : Nat} {r : List Value} (y1 : PF) (h : FOwn cells T I a n c S ps) (hI : I.le J) (ho : OwnRow a n c S' T 6 ((ps.map cells).set j r)) (hr : r = cells y1) (h1 : y1.Ok J) : FOwn cells T J a n c S' (ps.set j y1) := by
  subst hr
  refine ⟨by rw [List.map_set]; exact ho, fun p hp => ?_, by rw [List.length_set]; exact h.few⟩
  rcases List.mem_or_eq_of_mem_set hp with hp | rfl
  · exact (h.ok p hp).mono hI
  · exact h1
theorem Row.few {I : Gh} {a : Option Addr} {n c : Nat} {ps : List PF} (h : Row I [] a n c 6 (ps.map rcells)) (hp : ∀ p ∈ ps, p.Ok I) (hn : n ≤ 1000) : FRow rcells I [] a n c ps := ⟨h, hp, by have := h.len; rw [List.length_map] at this; omega⟩

theorem l_some {I : Gh} {L : List Seg} {a : Option Addr} {m c : Nat} {es : List Er} (hr : Row I [] a m c 4 (es.map ecs)) (hes : ∀ e ∈ es, ErI I e) : PC Try.prog 6 #[.slice a m c, .int .i64 12] I L fun K v => ∃ (a' : Option Addr) (n' c' : Nat) (qs : List Er), v = .slice a' n' c' ∧ Row K [] a' n' c' 4 (qs.map ecs) ∧ (∀ q ∈ qs, q.Ok rcells K ∧ q.add.length ≤ 8) ∧ qs.length ≤ 12 := by
  refine PC.of (n := 81) Try.func6 rfl Try.ntmps6 rfl fun I0 L0 hI0 hL0 => ?_
  have hr := hr.mono hI0 (.refl _)
  have hes := fun e he => (hes e he).mono hI0
  have e1 := hr.len
  rw [List.length_map] at e1
  have e2 := hr.le
  have e3 := hr.cap
  unfold maxLen at e3
  refine EW_seq ?_
  -- region 0  law.go:69
  refine EW_region ?_
  refine EL_s rfl rfl rfl (os_assign rfl) ?_
  refine EL_nil ?_
  refine EQ_then (EQ_wp ?_)
  refine EW_seq ?_
  -- region 1  law.go:70
  refine EW_region ?_
  refine EL_s rfl rfl rfl (os_assign rfl) ?_
  refine EL_nil ?_
  refine EQ_then (EQ_wp ?_)
  refine EW_seq ?_
  refine EW_seq ?_
  -- region 2  law.go:71
  refine EW_region ?_
  refine EL_s rfl rfl rfl (os_assign rfl) ?_
  refine EL_nil ?_
  refine EQ_then (EQ_wp ?_)
  refine EW_block ?_
  refine EW_loop (σ := Gh × Nat × Option Addr × Nat × Seg × List Er) (fun ⟨J, k, a1, c1, S, qs⟩ => [(0, .slice a m c), (1, .int .i64 12), (5, .slice a1 k c1), (6, .int .i64 (k : Int))]) (fun ⟨J, k, a1, c1, S, qs⟩ => J) (fun ⟨J, k, a1, c1, S, qs⟩ => S :: L0) (fun ⟨J, k, a1, c1, S, qs⟩ => I0.le J ∧ k ≤ 12 ∧ EOwn J a1 k c1 S qs) (fun ⟨J, k, a1, c1, S, qs⟩ => 12 - k) (I0, 0, none, 0, [], []) ⟨.refl _, Nat.zero_le _, ⟨OwnRow.empty _ _, fun q hq => (by cases hq)⟩⟩ (by exact ⟨rfl, rfl, rfl, rfl, trivial⟩) (fun w h => h.flat (by simp)) ?_
  rintro ⟨J, k, a1, c1, S, qs⟩ ⟨hJ, hk, ho⟩
  have e4 := ho.len
  refine EW_seq ?_
  refine EW_seq ?_
  -- region 3  law.go:71
  refine EW_region ?_
  refine EL_s rfl rfl rfl (os_move rfl) ?_
  refine EL_s rfl rfl rfl (os_move rfl) ?_
  refine EL_s rfl rfl rfl (os_len rfl sl26) ?_
  refine EL_s rfl rfl rfl (os_lss rfl rfl) ?_
  refine EL_s rfl rfl rfl (os_move rfl) ?_
  refine EL_split (t := 13) rfl (fun h => ?_) (fun h => ?_)
  · try simp only [decide_eq_true_eq, decide_eq_false_iff_not, Bool.not_eq_true', Bool.not_eq_false'] at h
    refine EL_yes (j := 4) (d := 13) (b := true) rfl rfl rfl ?_
    refine EL_s rfl rfl rfl (os_move rfl) ?_
    refine EL_yes (j := 4) (d := 13) (b := true) rfl rfl rfl ?_
    refine EL_s rfl rfl rfl (os_move rfl) ?_
    refine EL_yes (j := 4) (d := 13) (b := true) rfl rfl rfl ?_
    refine EL_s rfl rfl rfl (os_lss rfl rfl) ?_
    refine EL_s rfl rfl rfl (os_pick_t rfl rfl) ?_
    refine EL_nil ?_
    refine EQ_then (EQ_wp ?_)
    refine EW_cond rfl (fun h => ?_) (fun h => ?_)
    · try simp only [decide_eq_true_eq, decide_eq_false_iff_not, Bool.not_eq_true', Bool.not_eq_false'] at h
      refine EW_skip ?_
      refine EQ_then (EQ_wp ?_)
      refine EW_seq ?_
      refine EW_block ?_
      refine EW_seq ?_
      obtain ⟨x, hx⟩ := get_some (l := es) (k := k) (by omega)
      have hxo := (hes x (List.mem_of_getElem? hx)).mono hJ
      have e6 := hxo.add.len
      have e7 := hxo.drop.len
      have e8 := hxo.add.le
      have e9 := hxo.drop.le
      simp only [u64s, List.length_map] at e6 e7
      -- region 5  law.go:72
      refine EW_region ?_
      refine EL_s rfl rfl rfl (os_move rfl) ?_
      refine EL_s rfl rfl rfl (os_move rfl) ?_
      refine EL_s rfl rfl rfl (os_at (k) rfl rfl (by omega) sl26 (by omega) (hr.some (by omega))) ?_
      refine EL_s rfl rfl rfl (os_load_agg (cs := ecs x) rfl agg35 (hr.cells (List.getElem?_map .. |>.trans (congrArg _ hx)) hJ (.nil _))) ?_
      refine EL_a rfl rfl rfl (oa_alloc z35) ?_; intro b7
      refine EL_u rfl rfl (ox_store rfl rfl sz35 rfl (by rfl) (.head .head)) ?_
      refine EL_nil ?_
      refine EQ_then (EQ_wp ?_)
      refine EW_seq_cut (σ := Er) (fun x1 => [(0, .slice a m c), (1, .int .i64 12), (5, .slice a1 k c1), (6, .int .i64 (k : Int)), (7, .pointer (some ⟨b7, 0, none⟩))]) (fun x1 => J) (fun x1 => [(b7, .cells x1.v.cells 35)] :: S :: L0) (fun x1 => ErI J x1 ∧ x1.add.length ≤ 8) ?_ ?_
      · skip
        refine EW_seq ?_
        -- region 6  law.go:73
        refine EW_region ?_
        refine EL_s rfl rfl rfl (os_field rfl fl35_1) ?_
        refine EL_s rfl rfl rfl (os_load_one rfl one22 (cells_own own_head rfl)) ?_
        refine EL_s rfl rfl rfl (os_len rfl sl22) ?_
        refine EL_s rfl rfl rfl (os_gtr rfl rfl) ?_
        refine EL_nil ?_
        refine EQ_then (EQ_wp ?_)
        refine EW_cond rfl (fun h => ?_) (fun h => ?_)
        · try simp only [decide_eq_true_eq, decide_eq_false_iff_not, Bool.not_eq_true', Bool.not_eq_false'] at h
          -- region 7  law.go:74
          refine EW_region ?_
          refine EL_s rfl rfl rfl (os_field rfl fl35_1) ?_
          refine EL_s rfl rfl rfl (os_load_one rfl one22 (cells_own own_head rfl)) ?_
          refine EL_s rfl rfl rfl (os_slice_to 8 rfl rfl rfl sl22 (by omega)) ?_
          refine EL_s rfl rfl rfl (os_field rfl fl35_1) ?_
          refine EL_u rfl rfl (ox_store rfl rfl sz22 rfl (by rfl) (.head .head)) ?_
          refine EL_nil ?_
          refine EQ_cut ⟨x.reset, ⟨x.ha.a, 8, x.ha.c⟩, x.add.take 8, x.hd, x.drop, x.sq⟩ ?_ ?_ ?_
          · exact ⟨⟨by rw [List.map_take]; exact hxo.add.take 8 (by omega), fun p hp => hxo.ok p (List.mem_of_mem_take hp), hxo.drop, hxo.sq0, hxo.sq1⟩, by simp; omega⟩
          · exact ⟨rfl, rfl, rfl, rfl, rfl, trivial⟩
          · exact fun w h => h
        · try simp only [decide_eq_true_eq, decide_eq_false_iff_not, Bool.not_eq_true', Bool.not_eq_false'] at h
          refine EW_skip ?_
          refine EQ_cut x ?_ ?_ ?_
          · exact ⟨hxo, by omega⟩
          · exact ⟨rfl, rfl, rfl, rfl, rfl, trivial⟩
          · exact fun w h => h
      · rintro x1 ⟨hx1, h8⟩
        have e6 := hx1.add.len
        have e7 := hx1.drop.len
        have e8 := hx1.add.le
        have e9 := hx1.drop.le
        simp only [u64s, List.length_map] at e6 e7
        refine EW_seq_cut (σ := Er) (fun x2 => [(0, .slice a m c), (1, .int .i64 12), (5, .slice a1 k c1), (6, .int .i64 (k : Int)), (7, .pointer (some ⟨b7, 0, none⟩))]) (fun x2 => J) (fun x2 => [(b7, .cells x2.v.cells 35)] :: S :: L0) (fun x2 => ErI J x2 ∧ x2.add.length ≤ 8 ∧ x2.drop.length ≤ 8) ?_ ?_
        · skip
          refine EW_seq ?_
          -- region 8  law.go:76
          refine EW_region ?_
          refine EL_s rfl rfl rfl (os_field rfl fl35_2) ?_
          refine EL_s rfl rfl rfl (os_load_one rfl one33 (cells_own own_head rfl)) ?_
          refine EL_s rfl rfl rfl (os_len rfl sl33) ?_
          refine EL_s rfl rfl rfl (os_gtr rfl rfl) ?_
          refine EL_nil ?_
          refine EQ_then (EQ_wp ?_)
          refine EW_cond rfl (fun h => ?_) (fun h => ?_)
          · try simp only [decide_eq_true_eq, decide_eq_false_iff_not, Bool.not_eq_true', Bool.not_eq_false'] at h
            -- region 9  law.go:77
            refine EW_region ?_
            refine EL_s rfl rfl rfl (os_field rfl fl35_2) ?_
            refine EL_s rfl rfl rfl (os_load_one rfl one33 (cells_own own_head rfl)) ?_
            refine EL_s rfl rfl rfl (os_slice_to 8 rfl rfl rfl sl33 (by omega)) ?_
            refine EL_s rfl rfl rfl (os_field rfl fl35_2) ?_
            refine EL_u rfl rfl (ox_store rfl rfl sz33 rfl (by rfl) (.head .head)) ?_
            refine EL_nil ?_
            refine EQ_cut ⟨x1.reset, x1.ha, x1.add, ⟨x1.hd.a, 8, x1.hd.c⟩, x1.drop.take 8, x1.sq⟩ ?_ ?_ ?_
            · exact ⟨⟨hx1.add, hx1.ok, by rw [show u64s (x1.drop.take 8) = (u64s x1.drop).take 8 from List.map_take ..]; exact hx1.drop.take 8 (by omega), hx1.sq0, hx1.sq1⟩, h8, by simp; omega⟩
            · exact ⟨rfl, rfl, rfl, rfl, rfl, trivial⟩
            · exact fun w h => h
          · try simp only [decide_eq_true_eq, decide_eq_false_iff_not, Bool.not_eq_true', Bool.not_eq_false'] at h
            refine EW_skip ?_
            refine EQ_cut x1 ?_ ?_ ?_
            · exact ⟨hx1, h8, by omega⟩
            · exact ⟨rfl, rfl, rfl, rfl, rfl, trivial⟩
            · exact fun w h => h
        · rintro x2 ⟨hx2, h8, h9⟩
          have e6 := hx2.add.len
          have e7 := hx2.drop.len
          have e8 := hx2.add.le
          have e9 := hx2.drop.le
          simp only [u64s, List.length_map] at e6 e7
          refine EW_seq ?_
          -- region 10  law.go:79
          refine EW_region ?_
          refine EL_a rfl rfl rfl (oa_slice [] sl22 z55 rfl rfl rfl rfl) ?_; intro b40
          refine EL_s rfl rfl rfl (os_field rfl fl35_1) ?_
          refine EL_s rfl rfl rfl (os_load_one rfl one22 (cells_own (own_tail own_head) rfl)) ?_
          refine EL_y rfl rfl rfl (ox_append rfl rfl sl22 z55 rfl (by decide) (OwnRow.lit (xs := []) rfl (fun x hx => by cases hx) rfl (by decide)) pick0 ((hx2.add.up).src (by decide) (flat_one rcells_one x2.add)) hx2.add.nil (by omega) (by unfold maxLen; omega)) ?_
          rintro L4 v4 ⟨a4, c4, S4, rfl, rfl, ho4, hn4, hc4⟩
          refine EL_s rfl rfl rfl (os_field rfl fl35_1) ?_
          refine EL_u rfl rfl (ox_store rfl rfl sz22 rfl (by rfl) (.tail (.head .head))) ?_
          refine EL_nil ?_
          refine EQ_then (EQ_wp ?_)
          refine EW_seq ?_
          refine EW_seq ?_
          -- region 11  law.go:80
          refine EW_region ?_
          refine EL_s rfl rfl rfl (os_field rfl fl35_1) ?_
          refine EL_s rfl rfl rfl (os_load_one rfl one22 (cells_own (own_tail own_head) rfl)) ?_
          refine EL_s rfl rfl rfl (os_len rfl sl22) ?_
          refine EL_s rfl rfl rfl (os_move rfl) ?_
          refine EL_nil ?_
          refine EQ_then (EQ_wp ?_)
          refine EW_block ?_
          refine EW_loop (σ := Gh × Nat × Seg × List PF) (fun ⟨J2, j, S4, ps⟩ => [(0, .slice a m c), (1, .int .i64 12), (5, .slice a1 k c1), (6, .int .i64 (k : Int)), (7, .pointer (some ⟨b7, 0, none⟩)), (47, .int .i64 ((0 + x2.ha.n : Nat) : Int)), (48, .int .i64 (j : Int))]) (fun ⟨J2, j, S4, ps⟩ => J2) (fun ⟨J2, j, S4, ps⟩ => S4 :: [(b7, .cells #[.bool x2.reset, .slice a4 (0 + x2.ha.n) c4, x2.hd.v, .int .u64 x2.sq] 35)] :: S :: L0) (fun ⟨J2, j, S4, ps⟩ => J.le J2 ∧ j ≤ 0 + x2.ha.n ∧ FOwn rcells 55 J2 a4 (0 + x2.ha.n) c4 S4 ps) (fun ⟨J2, j, S4, ps⟩ => 0 + x2.ha.n - j) (J, 0, S4, x2.add) ⟨.refl _, Nat.zero_le _, FOwn.app ho4 rfl hx2.ok (by omega)⟩ (by exact ⟨rfl, rfl, rfl, rfl, rfl, rfl, rfl, trivial⟩) (fun w h => h) ?_
          rintro ⟨J2, j, S4, ps⟩ ⟨hJ2, hj, ho4⟩
          refine EW_seq ?_
          -- region 12  law.go:80
          refine EW_region ?_
          refine EL_s rfl rfl rfl (os_lss rfl rfl) ?_
          refine EL_nil ?_
          refine EQ_then (EQ_wp ?_)
          refine EW_seq ?_
          refine EW_cond rfl (fun h => ?_) (fun h => ?_)
          · try simp only [decide_eq_true_eq, decide_eq_false_iff_not, Bool.not_eq_true', Bool.not_eq_false'] at h
            refine EW_skip ?_
            refine EQ_then (EQ_wp ?_)
            refine EW_seq ?_
            refine EW_block ?_
            refine EW_seq ?_
            have e10 := ho4.len
            obtain ⟨y, hy⟩ := get_some (l := ps) (k := j) (by omega)
            have hyo := ho4.okAt hy
            -- region 13  law.go:80
            refine EW_region ?_
            refine EL_s rfl rfl rfl (os_move rfl) ?_
            refine EL_s rfl rfl rfl (os_assign rfl) ?_
            refine EL_nil ?_
            refine EQ_then (EQ_wp ?_)
            refine EW_seq ?_
            -- region 14 DRAWN  law.go:81
            refine EW_draw [] [.s, .s, .s, .s, .s, .s, .s, .s, .s, .g, .s, .s, .x] [0, 1, 2, 3, 4, 5, 6, 7, 8, 9, 10, 11, 12] mixed (by kernel_rfl) (by kernel_rfl) rfl ?_
            refine EP_s rfl rfl rfl rfl rfl (by exact (os_field rfl fl35_1)) ?_
            refine EP_s rfl rfl rfl rfl rfl (by exact (os_load_one rfl one22 (cells_own (own_tail own_head) rfl))) ?_
            refine EP_s rfl rfl rfl rfl rfl (by exact (os_move rfl)) ?_
            refine EP_s rfl rfl rfl rfl rfl (by exact (os_field rfl fl35_1)) ?_
            refine EP_s rfl rfl rfl rfl rfl (by exact (os_load_one rfl one22 (cells_own (own_tail own_head) rfl))) ?_
            refine EP_s rfl rfl rfl rfl rfl (by exact (os_move rfl)) ?_
            refine EP_s rfl rfl rfl rfl rfl (by exact (os_at (j) rfl rfl (by omega) sl22 (by omega) ((ho4.row' (L := L0)).some (by omega)))) ?_
            refine EP_s rfl rfl rfl rfl rfl (by exact (os_fieldA rfl (ho4.row.spot _) fl55_2)) ?_
            refine EP_s rfl rfl rfl rfl rfl (by exact (os_load_one rfl one49 ((ho4.get hy).at 2 rfl))) ?_
            refine EP_g rfl rfl rfl rfl rfl (by exact (og_call (vs := [_]) body15 rfl ((l_short hyo.first).le (.refl _) (.nil _)))) ?_
            intro I5 v60 hI5 hv60
            obtain ⟨g1, rfl, hg1⟩ := hv60
            refine EP_s rfl rfl rfl rfl rfl (by exact (os_at (j) rfl rfl (by omega) sl22 (by omega) ((ho4.row' (L := L0)).some (by omega)))) ?_
            refine EP_s rfl rfl rfl rfl rfl (by exact (os_fieldA rfl (ho4.row.spot _) fl55_2)) ?_
            refine EP_z rfl rfl rfl rfl (by exact (ox_store_cell rfl rfl sz49 rfl rfl ho4.row (List.getElem?_map .. |>.trans (congrArg _ hy)) (by decide) pick0)) ?_
            rintro L5 v5 ⟨S5, rfl, ho5⟩
            refine EP_nil ?_
            refine EQ_then (EQ_wp ?_)
            obtain ⟨y1, hy1⟩ : ∃ y1 : PF, y1 = ⟨{ y.f with first := y.f.first.take 1024 }, g1, y.h2⟩ := ⟨_, rfl⟩
            have hyo1 : y1.Ok I5 := by subst hy1; exact ⟨by have h7 := hyo.len1; simp; omega, hyo.len2, hg1 _ _ hI5 (.refl _), hyo.last.mono hI5 (.refl _), hyo.num0, hyo.num1⟩
            have hoy := FOwn.set1 y1 ho4 hI5 ho5 (by subst hy1; rfl) hyo1
            have hz : (ps.set j y1)[j]? = some y1 := by rw [List.getElem?_set_self (by omega)]
            -- region 15 DRAWN  law.go:82
            refine EW_draw [] [.s, .s, .s, .s, .s, .s, .s, .s, .s, .g, .s, .s, .x] [0, 1, 2, 3, 4, 5, 6, 7, 8, 9, 10, 11, 12] mixed (by kernel_rfl) (by kernel_rfl) rfl ?_
            refine EP_s rfl rfl rfl rfl rfl (by exact (os_field rfl fl35_1)) ?_
            refine EP_s rfl rfl rfl rfl rfl (by exact (os_load_one rfl one22 (cells_own (own_tail own_head) rfl))) ?_
            refine EP_s rfl rfl rfl rfl rfl (by exact (os_move rfl)) ?_
            refine EP_s rfl rfl rfl rfl rfl (by exact (os_field rfl fl35_1)) ?_
            refine EP_s rfl rfl rfl rfl rfl (by exact (os_load_one rfl one22 (cells_own (own_tail own_head) rfl))) ?_
            refine EP_s rfl rfl rfl rfl rfl (by exact (os_move rfl)) ?_
            refine EP_s rfl rfl rfl rfl rfl (by exact (os_at (j) rfl rfl (by omega) sl22 (by omega) ((hoy.row' (L := L0)).some (by omega)))) ?_
            refine EP_s rfl rfl rfl rfl rfl (by exact (os_fieldA rfl (hoy.row.spot _) fl55_3)) ?_
            refine EP_s rfl rfl rfl rfl rfl (by exact (os_load_one rfl one49 ((hoy.get hz).at 3 rfl))) ?_
            refine EP_g rfl rfl rfl rfl rfl (by exact (og_call (vs := [_]) body15 rfl ((l_short hyo1.last).le (.refl _) (.nil _)))) ?_
            intro I6 v72 hI6 hv72
            obtain ⟨g2, rfl, hg2⟩ := hv72
            refine EP_s rfl rfl rfl rfl rfl (by exact (os_at (j) rfl rfl (by omega) sl22 (by omega) ((hoy.row' (L := L0)).some (by omega)))) ?_
            refine EP_s rfl rfl rfl rfl rfl (by exact (os_fieldA rfl (hoy.row.spot _) fl55_3)) ?_
            refine EP_z rfl rfl rfl rfl (by exact (ox_store_cell rfl rfl sz49 rfl rfl hoy.row (List.getElem?_map .. |>.trans (congrArg _ hz)) (by decide) pick0)) ?_
            rintro L6 v6 ⟨S6, rfl, ho6⟩
            refine EP_nil ?_
            refine EQ_block_normal ?_
            refine EQ_then (EQ_wp ?_)
            obtain ⟨z1, hz1⟩ : ∃ z1 : PF, z1 = ⟨{ y1.f with last := y1.f.last.take 1024 }, y1.h1, g2⟩ := ⟨_, rfl⟩
            have hzo1 : z1.Ok I6 := by subst hz1; exact ⟨hyo1.len1, by have h7 := hyo1.len2; simp; omega, hyo1.first.mono hI6 (.refl _), hg2 _ _ hI6 (.refl _), hyo1.num0, hyo1.num1⟩
            have hoz := FOwn.set1 z1 hoy hI6 ho6 (by subst hz1; rfl) hzo1
            -- region 16  law.go:80
            refine EW_region ?_
            refine EL_s rfl rfl rfl (os_add_in rfl rfl (IntWalk.i64_in _ (by omega))) ?_
            refine EL_s rfl rfl rfl (os_move rfl) ?_
            refine EL_nil ?_
            refine EQ_round (I6, j + 1, S6, (ps.set j y1).set j z1) ?_ ?_ ?_ ?_
            · exact ⟨hJ2.trans (hI5.trans hI6), by omega, hoz⟩
            · first | omega | (dsimp only; omega)
            · exact ⟨rfl, rfl, rfl, rfl, rfl, rfl, rfl, trivial⟩
            · exact fun w h => h
          · try simp only [decide_eq_true_eq, decide_eq_false_iff_not, Bool.not_eq_true', Bool.not_eq_false'] at h
            refine EW_exit ?_
            refine EQ_then_exit (EQ_then_exit (EQ_block_exit (?_)))
            refine EQ_then (EQ_wp ?_)
            refine EW_freeze (S := S4) pick0 fun I9 hI9 hS9 => ?_
            -- region 17  law.go:84
            refine EW_region ?_
            refine EL_s rfl rfl rfl (os_move rfl) ?_
            refine EL_s rfl rfl rfl (os_load_agg (cs := [_, _, _, _]) rfl agg35 (cells_own own_head rfl)) ?_
            refine EL_a rfl rfl rfl (oa_slice [_] sl26 z35 rfl rfl rfl rfl) ?_; intro b78
            refine EL_y rfl rfl rfl (ox_append rfl rfl sl26 z35 rfl (by decide) ho.row (pickS (pickS pick0)) (src_e ⟨x2.reset, ⟨a4, 0 + x2.ha.n, c4⟩, ps, x2.hd, x2.drop, x2.sq⟩) (fun h => by cases h) (by omega) (by unfold maxLen; omega)) ?_
            rintro L6 v6 ⟨a6, c6, S6, rfl, rfl, ho6, hn6, hc6⟩
            refine EL_s rfl rfl rfl (os_assign rfl) ?_
            refine EL_nil ?_
            refine EQ_block_normal ?_
            refine EQ_then (EQ_wp ?_)
            -- region 4  law.go:71
            refine EW_region ?_
            refine EL_s rfl rfl rfl (os_move rfl) ?_
            refine EL_s rfl rfl rfl (os_add_in rfl rfl (IntWalk.i64_in _ (by omega))) ?_
            refine EL_s rfl rfl rfl (os_assign rfl) ?_
            refine EL_nil ?_
            refine EQ_round (I9, k + 1, a6, c6, S6, qs ++ [⟨x2.reset, ⟨a4, 0 + x2.ha.n, c4⟩, ps, x2.hd, x2.drop, x2.sq⟩]) ?_ ?_ ?_ ?_
            · exact ⟨hJ.trans (hJ2.trans hI9), by omega, ho.snoc ho6 (hJ2.trans hI9) ⟨(ho4.mono hI9).frow fun x hx => .inl (hS9 x hx), hx2.drop.mono (hJ2.trans hI9) (.refl _), by dsimp only; omega, hx2.sq0, hx2.sq1⟩ (by have h9 := ho4.len; dsimp only; omega)⟩
            · first | omega | (dsimp only; omega)
            · exact ⟨rfl, rfl, rfl, rfl, trivial⟩
            · exact fun w h => h.incl ((((Incl.refl _).skip _).skip _).cons _)
    · try simp only [decide_eq_true_eq, decide_eq_false_iff_not, Bool.not_eq_true', Bool.not_eq_false'] at h
      refine EW_exit ?_
      refine EQ_then_exit (EQ_then_exit (EQ_block_exit (?_)))
      refine EQ_then (EQ_wp ?_)
      refine EW_seq ?_
      refine EW_freeze (S := S) pick0 fun I9 hI9 hS9 => ?_
      -- region 18  law.go:86
      refine EW_region ?_
      refine EL_s rfl rfl rfl (os_move rfl) ?_
      refine EL_s rfl rfl rfl (os_assign rfl) ?_
      refine EL_nil ?_
      refine EQ_then (EQ_wp ?_)
      refine EW_ret ?_
      exact pc_ret1 Try.results6 (rv_tmp rfl) (hJ.trans hI9) (.refl _) ⟨a1, k, c1, qs, rfl, ho.row.row fun x hx => .inl (hS9 x hx), fun q hq => ⟨(ho.ok q hq).1.mono hI9, (ho.ok q hq).2⟩, by omega⟩ (.inl rfl)
  · try simp only [decide_eq_true_eq, decide_eq_false_iff_not, Bool.not_eq_true', Bool.not_eq_false'] at h
    refine EL_no rfl rfl rfl rfl rfl rfl ?_
    refine EL_no rfl rfl rfl rfl rfl rfl ?_
    refine EL_no rfl rfl rfl rfl rfl rfl ?_
    refine EL_s rfl rfl rfl (os_pick_f rfl rfl) ?_
    refine EL_nil ?_
    refine EQ_then (EQ_wp ?_)
    refine EW_false rfl ?_
    refine EW_exit ?_
    refine EQ_then_exit (EQ_then_exit (EQ_block_exit (?_)))
    refine EQ_then (EQ_wp ?_)
    refine EW_seq ?_
    refine EW_freeze (S := S) pick0 fun I9 hI9 hS9 => ?_
    -- region 18  law.go:86
    refine EW_region ?_
    refine EL_s rfl rfl rfl (os_move rfl) ?_
    refine EL_s rfl rfl rfl (os_assign rfl) ?_
    refine EL_nil ?_
    refine EQ_then (EQ_wp ?_)
    refine EW_ret ?_
    exact pc_ret1 Try.results6 (rv_tmp rfl) (hJ.trans hI9) (.refl _) ⟨a1, k, c1, qs, rfl, ho.row.row fun x hx => .inl (hS9 x hx), fun q hq => ⟨(ho.ok q hq).1.mono hI9, (ho.ok q hq).2⟩, by omega⟩ (.inl rfl)


end Go.Proofs.Ytodkbhbbdnjlcaa
