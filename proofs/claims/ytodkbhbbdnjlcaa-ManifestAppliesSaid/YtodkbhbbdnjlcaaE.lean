/- Proved here: the part E of the proof that the law of this seat returns true for every input; no condition. -/
import Derived.Test.YtodkbhbbdnjlcaaC
set_option maxRecDepth 20000
set_option linter.unusedVariables false
set_option linter.unusedSimpArgs false
namespace Go.Proofs.Ytodkbhbbdnjlcaa
open Go Go.Gl


/-- A row of files that lies frozen. -/
structure FRow (cells : PF → List Value) (I : Gh) (L : List Seg) (a : Option Addr) (n c : Nat) (ps : List PF) : Prop where
  row : Row I L a n c 6 (ps.map cells)
  ok : ∀ p ∈ ps, p.Ok I
  few : ps.length ≤ 1000
theorem FRow.mono {cells : PF → List Value} {I J : Gh} {L M : List Seg} {a : Option Addr} {n c : Nat} {ps : List PF} (h : FRow cells I L a n c ps) (hI : I.le J) (hL : Incl L M) : FRow cells J M a n c ps :=
  ⟨h.row.mono hI hL, fun p hp => (h.ok p hp).mono hI, h.few⟩
theorem FRow.len {cells : PF → List Value} {I : Gh} {L : List Seg} {a : Option Addr} {n c : Nat} {ps : List PF} (h : FRow cells I L a n c ps) : n = ps.length := by rw [h.row.len, List.length_map]
theorem FRow.get {cells : PF → List Value} {I : Gh} {L : List Seg} {a : Option Addr} {n c : Nat} {ps : List PF} (h : FRow cells I L a n c ps) {k : Nat} {p : PF} (hp : ps[k]? = some p) : Cells I L ((opA a).add (k * 6)) (cells p) :=
  h.row.cells (by simp [hp]) (.refl _) (.refl _)
theorem FRow.okAt {cells : PF → List Value} {I : Gh} {L : List Seg} {a : Option Addr} {n c : Nat} {ps : List PF} (h : FRow cells I L a n c ps) {k : Nat} {p : PF} (hp : ps[k]? = some p) : p.Ok I := h.ok p (List.mem_of_getElem? hp)
theorem pcells_len (ps : List PF) : ∀ x ∈ ps.map pcells, x.length = 6 := by intro x hx; simp at hx; obtain ⟨p, _, rfl⟩ := hx; rfl
theorem rcells_len (ps : List PF) : ∀ x ∈ ps.map rcells, x.length = 6 := by intro x hx; simp at hx; obtain ⟨p, _, rfl⟩ := hx; rfl
theorem flat_one {f : PF → List Value} (hf : ∀ p, ∀ x ∈ f p, x.oneCell' = true) (ps : List PF) : ∀ x ∈ (ps.map f).flatten, x.oneCell' = true := by
  intro x hx
  simp only [List.mem_flatten, List.mem_map] at hx
  obtain ⟨y, ⟨p, _, rfl⟩, hy⟩ := hx
  exact hf p x hy
theorem src_p {I : Gh} {L : List Seg} {b : Nat} {T : TypeId} (p : PF) : Src I ([(b, .cells ([Value.agg (pcells p).toArray].flatMap (·.cells.toList)).toArray T)] :: L) (some ⟨b, 0, none⟩) 1 6 [pcells p] :=
  src_lit [pcells p] rfl (by simp [pcells]) rfl (by decide) (by decide) (fun x hx => pcells_one p x (by simpa using hx))
theorem src_r {I : Gh} {L : List Seg} {b : Nat} {T : TypeId} (p : PF) : Src I ([(b, .cells ([Value.agg (rcells p).toArray].flatMap (·.cells.toList)).toArray T)] :: L) (some ⟨b, 0, none⟩) 1 6 [rcells p] :=
  src_lit [rcells p] rfl (by simp [rcells]) rfl (by decide) (by decide) (fun x hx => rcells_one p x (by simpa using hx))
/-- A row of files of the call's own. -/
structure FOwn (cells : PF → List Value) (T : TypeId) (I : Gh) (a : Option Addr) (n c : Nat) (S : Seg) (ps : List PF) : Prop where
  row : OwnRow a n c S T 6 (ps.map cells)
  ok : ∀ p ∈ ps, p.Ok I
  few : ps.length ≤ 1000
theorem FOwn.mono {cells : PF → List Value} {T : TypeId} {I J : Gh} {a : Option Addr} {n c : Nat} {S : Seg} {ps : List PF} (h : FOwn cells T I a n c S ps) (hI : I.le J) : FOwn cells T J a n c S ps := ⟨h.row, fun p hp => (h.ok p hp).mono hI, h.few⟩
theorem FOwn.empty (cells : PF → List Value) (T : TypeId) (I : Gh) : FOwn cells T I none 0 0 [] [] := ⟨OwnRow.empty T 6, fun p hp => (by cases hp), by decide⟩
theorem FOwn.frow {cells : PF → List Value} {T : TypeId} {I : Gh} {L : List Seg} {a : Option Addr} {n c : Nat} {S : Seg} {ps : List PF} (h : FOwn cells T I a n c S ps) (hS : ∀ x ∈ S, Rd I L x.1 x.2) : FRow cells I L a n c ps := ⟨h.row.row hS, h.ok, h.few⟩
theorem FOwn.len {cells : PF → List Value} {T : TypeId} {I : Gh} {a : Option Addr} {n c : Nat} {S : Seg} {ps : List PF} (h : FOwn cells T I a n c S ps) : n = ps.length := by rw [h.row.1, List.length_map]
theorem FOwn.snoc {cells : PF → List Value} {T : TypeId} {I : Gh} {a : Option Addr} {n c : Nat} {S : Seg} {ps : List PF} {p : PF} (h : OwnRow a n c S T 6 (ps.map cells ++ [cells p])) (hp : ∀ p ∈ ps, p.Ok I) (h1 : p.Ok I) (hf : ps.length + 1 ≤ 1000) : FOwn cells T I a n c S (ps ++ [p]) :=
  ⟨by rw [List.map_append]; exact h, fun q hq => (List.mem_append.1 hq).elim (hp q) (fun hq => by rw [List.mem_singleton.1 hq]; exact h1), by simpa using hf⟩
theorem take_snoc {α β : Type} {l : List α} {k : Nat} {x : α} (f : α → β) (h : l[k]? = some x) : (l.take (k + 1)).map f = (l.take k).map f ++ [f x] := by
  rw [List.take_add_one, h]; simp

theorem m_twins {I : Gh} {L : List Seg} {a : Option Addr} {m c : Nat} {ps : List PF} (hr : FRow pcells I L a m c ps) : PX Try.prog 21 #[.slice a m c] I L fun K S v => ∃ a' m' c' qs, v = .slice a' m' c' ∧ FOwn pcells 53 K a' m' c' S qs ∧ qs.map (·.f) = ps.map (·.f) := by
  refine PX.of (n := 19) Try.func21 rfl Try.ntmps21 rfl fun I0 L0 hI0 hL0 => ?_
  have hr := hr.mono hI0 hL0
  have e1 := hr.len
  have few := hr.few
  refine EW_seq ?_
  -- region 0  manifest.go:49
  refine EW_region ?_
  refine EL_s rfl rfl rfl (os_assign rfl) ?_
  refine EL_nil ?_
  refine EQ_then (EQ_wp ?_)
  refine EW_seq ?_
  -- region 1  manifest.go:50
  refine EW_region ?_
  refine EL_s rfl rfl rfl (os_assign rfl) ?_
  refine EL_nil ?_
  refine EQ_then (EQ_wp ?_)
  refine EW_seq ?_
  refine EW_seq ?_
  -- region 2  manifest.go:51
  refine EW_region ?_
  refine EL_s rfl rfl rfl (os_move rfl) ?_
  refine EL_s rfl rfl rfl (os_len rfl sl28) ?_
  refine EL_s rfl rfl rfl (os_move rfl) ?_
  refine EL_nil ?_
  refine EQ_then (EQ_wp ?_)
  refine EW_block ?_
  refine EW_loop (σ := Gh × Nat × Option Addr × Nat × Seg × List PF) (fun ⟨I1, k, a1, c1, S1, qs⟩ => [(3, .slice a1 k c1), (6, .slice a m c), (7, .int .i64 (m : Int)), (8, .int .i64 (k : Int))]) (fun ⟨I1, k, a1, c1, S1, qs⟩ => I1) (fun ⟨I1, k, a1, c1, S1, qs⟩ => S1 :: L0) (fun ⟨I1, k, a1, c1, S1, qs⟩ => I0.le I1 ∧ k ≤ m ∧ FOwn pcells 53 I1 a1 k c1 S1 qs ∧ qs.map (·.f) = (ps.take k).map (·.f)) (fun ⟨I1, k, a1, c1, S1, qs⟩ => m - k) (I0, 0, none, 0, [], []) ⟨.refl _, Nat.zero_le _, FOwn.empty _ _ _, rfl⟩ (by exact ⟨rfl, rfl, rfl, rfl, trivial⟩) (fun w h => h.flat (by simp)) ?_
  rintro ⟨I1, k, a1, c1, S1, qs⟩ ⟨hI1, hk, ho, hq⟩
  refine EW_seq ?_
  -- region 3  manifest.go:51
  refine EW_region ?_
  refine EL_s rfl rfl rfl (os_lss rfl rfl) ?_
  refine EL_nil ?_
  refine EQ_then (EQ_wp ?_)
  refine EW_seq ?_
  refine EW_cond rfl (fun h => ?_) (fun h => ?_)
  · try simp only [decide_eq_true_eq, decide_eq_false_iff_not, Bool.not_eq_true', Bool.not_eq_false'] at h
    refine EW_skip ?_
    refine EQ_then (EQ_wp ?_)
    refine EW_seq ?_
    refine EW_block ?_
    refine EW_seq ?_
    have hr1 := hr.mono hI1 (((Incl.refl L0).skip S1))
    obtain ⟨x, hx⟩ := get_some (l := ps) (k := k) (by omega)
    have elen := ho.len
    -- region 4  manifest.go:51
    refine EW_region ?_
    refine EL_s rfl rfl rfl (os_at (k) rfl rfl (by omega) sl28 (by omega) (hr.row.some (by omega))) ?_
    refine EL_s rfl rfl rfl (os_load_agg (cs := pcells x) rfl agg53 (hr1.get hx)) ?_
    refine EL_a rfl rfl rfl (oa_alloc z53) ?_; intro b5
    refine EL_u rfl rfl (ox_store rfl rfl sz53 rfl (by rfl) (.head .head)) ?_
    refine EL_nil ?_
    refine EQ_then (EQ_wp ?_)
    -- region 5  manifest.go:52
    refine EW_region ?_
    refine EL_s rfl rfl rfl (os_move rfl) ?_
    refine EL_s rfl rfl rfl (os_load_agg (cs := pcells x) rfl agg53 (cells_own own_head rfl)) ?_
    refine EL_g rfl rfl rfl (og_call (vs := [_]) body27 rfl (m_twin (hr1.okAt hx))) ?_; intro I2 v14 hI2 hv14
    obtain ⟨q, rfl, hq1, hqf⟩ := hv14
    refine EL_a rfl rfl rfl (oa_slice [_] sl28 z53 rfl rfl rfl rfl) ?_; intro b15
    refine EL_y rfl rfl rfl (ox_append rfl rfl sl28 z53 rfl (by decide) ho.row (pickS (pickS pick0)) (src_p q) (fun h => by cases h) (by have := ho.few; omega) (by have := ho.few; unfold maxLen; omega)) ?_
    rintro L4 v16 ⟨a16, c16, S16, rfl, rfl, ho16, hn16, hc16⟩
    refine EL_s rfl rfl rfl (os_assign rfl) ?_
    refine EL_nil ?_
    refine EQ_block_normal ?_
    refine EQ_then (EQ_wp ?_)
    -- region 6  manifest.go:51
    refine EW_region ?_
    refine EL_s rfl rfl rfl (os_add_in rfl rfl (IntWalk.i64_in _ (by omega))) ?_
    refine EL_s rfl rfl rfl (os_move rfl) ?_
    refine EL_nil ?_
    refine EQ_round (I2, k + 1, a16, c16, S16, qs ++ [q]) ?_ ?_ ?_ ?_
    · exact ⟨hI1.trans hI2, by omega, FOwn.snoc ho16 (fun p hp => (ho.ok p hp).mono hI2) hq1 (by rw [← elen]; omega), by rw [List.map_append, hq, take_snoc _ hx]; simp [hqf]⟩
    · first | omega | (dsimp only; omega)
    · exact ⟨rfl, rfl, rfl, rfl, trivial⟩
    · exact fun w h => h.incl ((((Incl.refl _).skip _).skip _).cons _)
  · try simp only [decide_eq_true_eq, decide_eq_false_iff_not, Bool.not_eq_true', Bool.not_eq_false'] at h
    refine EW_exit ?_
    refine EQ_then_exit (EQ_then_exit (EQ_block_exit (?_)))
    refine EQ_then (EQ_wp ?_)
    refine EW_seq ?_
    -- region 7  manifest.go:54
    refine EW_region ?_
    refine EL_s rfl rfl rfl (os_move rfl) ?_
    refine EL_s rfl rfl rfl (os_assign rfl) ?_
    refine EL_nil ?_
    refine EQ_then (EQ_wp ?_)
    refine EW_ret ?_
    exact px_ret1 _ Try.results21 (rv_tmp rfl) hI1 ((Incl.refl _).cons _) ⟨a1, k, c1, qs, rfl, ho, by rw [hq, List.take_of_length_le (by omega)]⟩ (.inl rfl)


structure V where
  fs : List Fl
  nx : Int
  sq : Int
def vcells (h : Hd) (nx sq : Int) : List Value := [h.v, .int .u64 nx, .int .u64 sq]
/-- A version as it lies. -/
structure Vr where
  h : Hd
  ps : List PF
  nx : Int
  sq : Int
def Vr.v (r : Vr) : Value := .agg (vcells r.h r.nx r.sq).toArray
def Vr.abs (r : Vr) : V := ⟨r.ps.map (·.f), r.nx, r.sq⟩
structure Vr.Ok (cells : PF → List Value) (I : Gh) (r : Vr) : Prop where
  row : FRow cells I [] r.h.a r.h.n r.h.c r.ps
  nx0 : 0 ≤ r.nx
  nx1 : r.nx ≤ 18446744073709551615
  sq0 : 0 ≤ r.sq
  sq1 : r.sq ≤ 18446744073709551615
theorem Vr.Ok.mono {cells : PF → List Value} {I J : Gh} {r : Vr} (h : r.Ok cells I) (hI : I.le J) : r.Ok cells J := ⟨h.row.mono hI (.refl _), h.nx0, h.nx1, h.sq0, h.sq1⟩

theorem l_version {I : Gh} {L : List Seg} (r : Vr) (hr : r.Ok rcells I) : PC Try.prog 5 #[r.v] I L fun K v => ∃ r' : Vr, v = r'.v ∧ r'.Ok pcells K ∧ r'.abs = r.abs := by
  refine PC.of (n := 27) Try.func5 rfl Try.ntmps5 rfl fun I0 L0 hI0 hL0 => ?_
  have hr := hr.mono hI0
  have e1 := hr.row.len
  have few := hr.row.few
  refine EW_seq ?_
  -- region 0  law.go:22
  refine EW_region ?_
  refine EL_a rfl rfl rfl (oa_box rfl) ?_; intro b1
  refine EL_a rfl rfl rfl (oa_alloc z30) ?_; intro b2
  refine EL_nil ?_
  refine EQ_then (EQ_wp ?_)
  refine EW_seq ?_
  -- region 1  law.go:23
  refine EW_region ?_
  refine EL_s rfl rfl rfl (os_field rfl fl25_1) ?_
  refine EL_s rfl rfl rfl (os_load_one rfl one23 (cells_own (own_tail own_head) rfl)) ?_
  refine EL_s rfl rfl rfl (os_field rfl fl25_2) ?_
  refine EL_s rfl rfl rfl (os_load_one rfl one23 (cells_own (own_tail own_head) rfl)) ?_
  refine EL_s rfl rfl rfl (os_struct (cs := [_, _, _]) [(1, _), (2, _)] pl30 z30 rfl rfl) ?_
  refine EL_a rfl rfl rfl (oa_alloc z30) ?_; intro b3
  refine EL_u rfl rfl (ox_store rfl rfl sz30 rfl (by rfl) (.head .head)) ?_
  refine EL_nil ?_
  refine EQ_then (EQ_wp ?_)
  refine EW_seq ?_
  refine EW_seq ?_
  -- region 2  law.go:24
  refine EW_region ?_
  refine EL_s rfl rfl rfl (os_field rfl fl25_0) ?_
  refine EL_s rfl rfl rfl (os_load_one rfl one22 (cells_own (own_tail (own_tail own_head)) rfl)) ?_
  refine EL_s rfl rfl rfl (os_len rfl sl22) ?_
  refine EL_s rfl rfl rfl (os_move rfl) ?_
  refine EL_nil ?_
  refine EQ_then (EQ_wp ?_)
  refine EW_block ?_
  refine EW_loop (σ := Gh × Nat × Option Addr × Nat × Seg × List PF) (fun ⟨I1, k, a1, c1, S1, qs⟩ => [(2, .pointer (some ⟨b2, 0, none⟩)), (3, .pointer (some ⟨b3, 0, none⟩)), (12, r.h.v), (13, .int .i64 (r.h.n : Int)), (14, .int .i64 (k : Int))]) (fun ⟨I1, k, a1, c1, S1, qs⟩ => I1) (fun ⟨I1, k, a1, c1, S1, qs⟩ => S1 :: [(b3, .cells #[.slice a1 k c1, .int .u64 r.nx, .int .u64 r.sq] 30)] :: [(b2, .cells #[.slice none 0 0, .int .u64 0, .int .u64 0] 30)] :: L0) (fun ⟨I1, k, a1, c1, S1, qs⟩ => I0.le I1 ∧ k ≤ r.h.n ∧ FOwn pcells 53 I1 a1 k c1 S1 qs ∧ qs.map (·.f) = (r.ps.take k).map (·.f)) (fun ⟨I1, k, a1, c1, S1, qs⟩ => r.h.n - k) (I0, 0, none, 0, [], []) ⟨.refl _, Nat.zero_le _, FOwn.empty _ _ _, rfl⟩ (by exact ⟨rfl, rfl, rfl, rfl, rfl, trivial⟩) (fun w h => h.incl (Incl.of_nil ((((Incl.refl L0).skip _).cons _).cons _))) ?_
  rintro ⟨I1, k, a1, c1, S1, qs⟩ ⟨hI1, hk, ho, hq⟩
  refine EW_seq ?_
  -- region 3  law.go:24
  refine EW_region ?_
  refine EL_s rfl rfl rfl (os_lss rfl rfl) ?_
  refine EL_nil ?_
  refine EQ_then (EQ_wp ?_)
  refine EW_seq ?_
  refine EW_cond rfl (fun h => ?_) (fun h => ?_)
  · try simp only [decide_eq_true_eq, decide_eq_false_iff_not, Bool.not_eq_true', Bool.not_eq_false'] at h
    refine EW_skip ?_
    refine EQ_then (EQ_wp ?_)
    refine EW_seq ?_
    refine EW_block ?_
    refine EW_seq ?_
    have hr1 := hr.row.mono hI1 (Incl.nil (S1 :: [(b3, .cells #[.slice a1 k c1, .int .u64 r.nx, .int .u64 r.sq] 30)] :: [(b2, .cells #[.slice none 0 0, .int .u64 0, .int .u64 0] 30)] :: L0))
    obtain ⟨x, hx⟩ := get_some (l := r.ps) (k := k) (by omega)
    have elen := ho.len
    -- region 4  law.go:24
    refine EW_region ?_
    refine EL_s rfl rfl rfl (os_at (k) rfl rfl (by omega) sl22 (by omega) (hr.row.row.some (by omega))) ?_
    refine EL_s rfl rfl rfl (os_load_agg (cs := rcells x) rfl agg55 (hr1.get hx)) ?_
    refine EL_a rfl rfl rfl (oa_alloc z55) ?_; intro b5
    refine EL_u rfl rfl (ox_store rfl rfl sz55 rfl (by rfl) (.head .head)) ?_
    refine EL_nil ?_
    refine EQ_then (EQ_wp ?_)
    -- region 5 DRAWN  law.go:25
    refine EW_draw [] [.s, .s, .s, .g, .a, .x, .s, .x] [0, 1, 2, 3, 4, 5, 6, 7] mixed (by kernel_rfl) (by kernel_rfl) rfl ?_
    refine EP_s rfl rfl rfl rfl rfl (by exact (os_field rfl fl30_0)) ?_
    refine EP_s rfl rfl rfl rfl rfl (by exact (os_load_one rfl one28 (cells_own (own_tail (own_tail own_head)) rfl))) ?_
    refine EP_s rfl rfl rfl rfl rfl (by exact (os_load_agg (cs := rcells x) rfl agg55 (cells_own own_head rfl))) ?_
    refine EP_g rfl rfl rfl rfl rfl (by exact (og_call (vs := [_]) body14 rfl (l_file (hr1.okAt hx)))) ?_
    intro I2 v21 hI2 hv21
    obtain ⟨q, rfl, hq1, hqf⟩ := hv21
    refine EP_a rfl rfl rfl rfl rfl (by exact (oa_slice [_] sl28 z53 rfl rfl rfl rfl)) ?_
    intro b22
    refine EP_y rfl rfl rfl rfl rfl (by exact (ox_append rfl rfl sl28 z53 rfl (by decide) ho.row (pickS (pickS pick0)) (src_p q) (fun h => by cases h) (by have := ho.few; omega) (by have := ho.few; unfold maxLen; omega))) ?_
    rintro L4 v16 ⟨a23, c23, S23, rfl, rfl, ho23, hn23, hc23⟩
    refine EP_s rfl rfl rfl rfl rfl (by exact (os_field rfl fl30_0)) ?_
    refine EP_u rfl rfl rfl rfl (by exact (ox_store rfl rfl sz28 rfl (by rfl) (.tail (.tail (.tail (.head .head)))))) ?_
    refine EP_nil ?_
    refine EQ_block_normal ?_
    refine EQ_then (EQ_wp ?_)
    -- region 6  law.go:24
    refine EW_region ?_
    refine EL_s rfl rfl rfl (os_add_in rfl rfl (IntWalk.i64_in _ (by omega))) ?_
    refine EL_s rfl rfl rfl (os_move rfl) ?_
    refine EL_nil ?_
    refine EQ_round (I2, k + 1, a23, c23, S23, qs ++ [q]) ?_ ?_ ?_ ?_
    · exact ⟨hI1.trans hI2, by omega, FOwn.snoc ho23 (fun p hp => (ho.ok p hp).mono hI2) hq1 (by rw [← elen]; omega), by rw [List.map_append, hq, take_snoc _ hx]; simp [hqf]⟩
    · first | omega | (dsimp only; omega)
    · exact ⟨rfl, rfl, rfl, rfl, rfl, trivial⟩
    · exact fun w h => h.incl (((((((Incl.refl L0).cons _).cons _).skip _).skip _)).cons _)
  · try simp only [decide_eq_true_eq, decide_eq_false_iff_not, Bool.not_eq_true', Bool.not_eq_false'] at h
    refine EW_exit ?_
    refine EQ_then_exit (EQ_then_exit (EQ_block_exit (?_)))
    refine EQ_then (EQ_wp ?_)
    refine EW_seq ?_
    refine EW_freeze (S := S1) pick0 fun I9 hI9 hS9 => ?_
    -- region 7  law.go:27
    refine EW_region ?_
    refine EL_s rfl rfl rfl (os_load_agg (cs := [_, _, _]) rfl agg30 (cells_own own_head rfl)) ?_
    refine EL_u rfl rfl (ox_store rfl rfl sz30 rfl (by rfl) (.tail (.head .head))) ?_
    refine EL_nil ?_
    refine EQ_then (EQ_wp ?_)
    refine EW_ret ?_
    exact pc_ret1 Try.results5 (rv_agg (cs := [_, _, _]) rfl agg30 (cells_own (own_tail own_head) rfl)) (hI1.trans hI9) (((Incl.refl _).skip _).skip _) ⟨⟨⟨a1, k, c1⟩, qs, r.nx, r.sq⟩, rfl, ⟨(ho.mono hI9).frow fun x hx => .inl (hS9 x hx), hr.nx0, hr.nx1, hr.sq0, hr.sq1⟩, by simp only [Vr.abs, hq]; rw [List.take_of_length_le (by omega)]⟩ (.inl rfl)

theorem l_toldVersion {I : Gh} {L : List Seg} (r : Vr) (hr : r.Ok pcells I) : PC Try.prog 13 #[r.v] I L fun K v => ∃ r' : Vr, v = r'.v ∧ r'.Ok rcells K ∧ r'.abs = r.abs := by
  refine PC.of (n := 27) Try.func13 rfl Try.ntmps13 rfl fun I0 L0 hI0 hL0 => ?_
  have hr := hr.mono hI0
  have e1 := hr.row.len
  have few := hr.row.few
  refine EW_seq ?_
  -- region 0  law.go:30
  refine EW_region ?_
  refine EL_a rfl rfl rfl (oa_box rfl) ?_; intro b1
  refine EL_a rfl rfl rfl (oa_alloc z25) ?_; intro b2
  refine EL_nil ?_
  refine EQ_then (EQ_wp ?_)
  refine EW_seq ?_
  -- region 1  law.go:31
  refine EW_region ?_
  refine EL_s rfl rfl rfl (os_field rfl fl30_1) ?_
  refine EL_s rfl rfl rfl (os_load_one rfl one23 (cells_own (own_tail own_head) rfl)) ?_
  refine EL_s rfl rfl rfl (os_field rfl fl30_2) ?_
  refine EL_s rfl rfl rfl (os_load_one rfl one23 (cells_own (own_tail own_head) rfl)) ?_
  refine EL_s rfl rfl rfl (os_struct (cs := [_, _, _]) [(1, _), (2, _)] pl25 z25 rfl rfl) ?_
  refine EL_a rfl rfl rfl (oa_alloc z25) ?_; intro b3
  refine EL_u rfl rfl (ox_store rfl rfl sz25 rfl (by rfl) (.head .head)) ?_
  refine EL_nil ?_
  refine EQ_then (EQ_wp ?_)
  refine EW_seq ?_
  refine EW_seq ?_
  -- region 2  law.go:32
  refine EW_region ?_
  refine EL_s rfl rfl rfl (os_field rfl fl30_0) ?_
  refine EL_s rfl rfl rfl (os_load_one rfl one28 (cells_own (own_tail (own_tail own_head)) rfl)) ?_
  refine EL_s rfl rfl rfl (os_len rfl sl28) ?_
  refine EL_s rfl rfl rfl (os_move rfl) ?_
  refine EL_nil ?_
  refine EQ_then (EQ_wp ?_)
  refine EW_block ?_
  refine EW_loop (σ := Gh × Nat × Option Addr × Nat × Seg × List PF) (fun ⟨I1, k, a1, c1, S1, qs⟩ => [(2, .pointer (some ⟨b2, 0, none⟩)), (3, .pointer (some ⟨b3, 0, none⟩)), (12, r.h.v), (13, .int .i64 (r.h.n : Int)), (14, .int .i64 (k : Int))]) (fun ⟨I1, k, a1, c1, S1, qs⟩ => I1) (fun ⟨I1, k, a1, c1, S1, qs⟩ => S1 :: [(b3, .cells #[.slice a1 k c1, .int .u64 r.nx, .int .u64 r.sq] 25)] :: [(b2, .cells #[.slice none 0 0, .int .u64 0, .int .u64 0] 25)] :: L0) (fun ⟨I1, k, a1, c1, S1, qs⟩ => I0.le I1 ∧ k ≤ r.h.n ∧ FOwn rcells 55 I1 a1 k c1 S1 qs ∧ qs.map (·.f) = (r.ps.take k).map (·.f)) (fun ⟨I1, k, a1, c1, S1, qs⟩ => r.h.n - k) (I0, 0, none, 0, [], []) ⟨.refl _, Nat.zero_le _, FOwn.empty _ _ _, rfl⟩ (by exact ⟨rfl, rfl, rfl, rfl, rfl, trivial⟩) (fun w h => h.incl (Incl.of_nil ((((Incl.refl L0).skip _).cons _).cons _))) ?_
  rintro ⟨I1, k, a1, c1, S1, qs⟩ ⟨hI1, hk, ho, hq⟩
  refine EW_seq ?_
  -- region 3  law.go:32
  refine EW_region ?_
  refine EL_s rfl rfl rfl (os_lss rfl rfl) ?_
  refine EL_nil ?_
  refine EQ_then (EQ_wp ?_)
  refine EW_seq ?_
  refine EW_cond rfl (fun h => ?_) (fun h => ?_)
  · try simp only [decide_eq_true_eq, decide_eq_false_iff_not, Bool.not_eq_true', Bool.not_eq_false'] at h
    refine EW_skip ?_
    refine EQ_then (EQ_wp ?_)
    refine EW_seq ?_
    refine EW_block ?_
    refine EW_seq ?_
    have hr1 := hr.row.mono hI1 (Incl.nil (S1 :: [(b3, .cells #[.slice a1 k c1, .int .u64 r.nx, .int .u64 r.sq] 25)] :: [(b2, .cells #[.slice none 0 0, .int .u64 0, .int .u64 0] 25)] :: L0))
    obtain ⟨x, hx⟩ := get_some (l := r.ps) (k := k) (by omega)
    have elen := ho.len
    -- region 4  law.go:32
    refine EW_region ?_
    refine EL_s rfl rfl rfl (os_at (k) rfl rfl (by omega) sl28 (by omega) (hr.row.row.some (by omega))) ?_
    refine EL_s rfl rfl rfl (os_load_agg (cs := pcells x) rfl agg53 (hr1.get hx)) ?_
    refine EL_a rfl rfl rfl (oa_alloc z53) ?_; intro b5
    refine EL_u rfl rfl (ox_store rfl rfl sz53 rfl (by rfl) (.head .head)) ?_
    refine EL_nil ?_
    refine EQ_then (EQ_wp ?_)
    -- region 5 DRAWN  law.go:33
    refine EW_draw [] [.s, .s, .s, .s, .a, .x, .s, .x] [0, 1, 2, 3, 4, 5, 6, 7] mixed (by kernel_rfl) (by kernel_rfl) rfl ?_
    refine EP_s rfl rfl rfl rfl rfl (by exact (os_field rfl fl25_0)) ?_
    refine EP_s rfl rfl rfl rfl rfl (by exact (os_load_one rfl one22 (cells_own (own_tail (own_tail own_head)) rfl))) ?_
    refine EP_s rfl rfl rfl rfl rfl (by exact (os_load_agg (cs := pcells x) rfl agg53 (cells_own own_head rfl))) ?_
    refine EP_s rfl rfl rfl rfl rfl (by exact (os_call (vs := [_]) body30 rfl (l_told x))) ?_
    refine EP_a rfl rfl rfl rfl rfl (by exact (oa_slice [_] sl22 z55 rfl rfl rfl rfl)) ?_
    intro b22
    refine EP_y rfl rfl rfl rfl rfl (by exact (ox_append rfl rfl sl22 z55 rfl (by decide) ho.row (pickS (pickS pick0)) (src_r x) (fun h => by cases h) (by have := ho.few; omega) (by have := ho.few; unfold maxLen; omega))) ?_
    rintro L4 v16 ⟨a23, c23, S23, rfl, rfl, ho23, hn23, hc23⟩
    refine EP_s rfl rfl rfl rfl rfl (by exact (os_field rfl fl25_0)) ?_
    refine EP_u rfl rfl rfl rfl (by exact (ox_store rfl rfl sz22 rfl (by rfl) (.tail (.tail (.tail (.head .head)))))) ?_
    refine EP_nil ?_
    refine EQ_block_normal ?_
    refine EQ_then (EQ_wp ?_)
    -- region 6  law.go:32
    refine EW_region ?_
    refine EL_s rfl rfl rfl (os_add_in rfl rfl (IntWalk.i64_in _ (by omega))) ?_
    refine EL_s rfl rfl rfl (os_move rfl) ?_
    refine EL_nil ?_
    refine EQ_round (I1, k + 1, a23, c23, S23, qs ++ [x]) ?_ ?_ ?_ ?_
    · exact ⟨hI1, by omega, FOwn.snoc ho23 ho.ok (hr1.okAt hx) (by rw [← elen]; omega), by rw [List.map_append, hq, take_snoc _ hx]; simp⟩
    · first | omega | (dsimp only; omega)
    · exact ⟨rfl, rfl, rfl, rfl, rfl, trivial⟩
    · exact fun w h => h.incl (((((((Incl.refl L0).cons _).cons _).skip _).skip _)).cons _)
  · try simp only [decide_eq_true_eq, decide_eq_false_iff_not, Bool.not_eq_true', Bool.not_eq_false'] at h
    refine EW_exit ?_
    refine EQ_then_exit (EQ_then_exit (EQ_block_exit (?_)))
    refine EQ_then (EQ_wp ?_)
    refine EW_seq ?_
    refine EW_freeze (S := S1) pick0 fun I9 hI9 hS9 => ?_
    -- region 7  law.go:35
    refine EW_region ?_
    refine EL_s rfl rfl rfl (os_load_agg (cs := [_, _, _]) rfl agg25 (cells_own own_head rfl)) ?_
    refine EL_u rfl rfl (ox_store rfl rfl sz25 rfl (by rfl) (.tail (.head .head))) ?_
    refine EL_nil ?_
    refine EQ_then (EQ_wp ?_)
    refine EW_ret ?_
    exact pc_ret1 Try.results13 (rv_agg (cs := [_, _, _]) rfl agg25 (cells_own (own_tail own_head) rfl)) (hI1.trans hI9) (((Incl.refl _).skip _).skip _) ⟨⟨⟨a1, k, c1⟩, qs, r.nx, r.sq⟩, rfl, ⟨(ho.mono hI9).frow fun x hx => .inl (hS9 x hx), hr.nx0, hr.nx1, hr.sq0, hr.sq1⟩, by simp only [Vr.abs, hq]; rw [List.take_of_length_le (by omega)]⟩ (.inl rfl)


structure E where
  reset : Bool
  add : List Fl
  drop : List Int
  sq : Int
def u64s (l : List Int) : List (List Value) := l.map fun x => [.int .u64 x]
theorem u64s_one (l : List Int) : ∀ x ∈ (u64s l).flatten, x.oneCell' = true := by
  intro x hx
  simp only [u64s, List.mem_flatten, List.mem_map] at hx
  obtain ⟨y, ⟨b, _, rfl⟩, hy⟩ := hx
  simp only [List.mem_singleton] at hy
  subst hy; rfl
/-- An edit as it lies. -/
structure Er where
  reset : Bool
  ha : Hd
  add : List PF
  hd : Hd
  drop : List Int
  sq : Int
def ecells (reset : Bool) (ha hd : Hd) (sq : Int) : List Value := [.bool reset, ha.v, hd.v, .int .u64 sq]
def Er.v (r : Er) : Value := .agg (ecells r.reset r.ha r.hd r.sq).toArray
def Er.abs (r : Er) : E := ⟨r.reset, r.add.map (·.f), r.drop, r.sq⟩
structure Er.Ok (cells : PF → List Value) (I : Gh) (r : Er) : Prop where
  add : FRow cells I [] r.ha.a r.ha.n r.ha.c r.add
  drop : Row I [] r.hd.a r.hd.n r.hd.c 1 (u64s r.drop)
  few : r.drop.length ≤ 1000
  sq0 : 0 ≤ r.sq
  sq1 : r.sq ≤ 18446744073709551615
theorem Er.Ok.mono {cells : PF → List Value} {I J : Gh} {r : Er} (h : r.Ok cells I) (hI : I.le J) : r.Ok cells J := ⟨h.add.mono hI (.refl _), h.drop.mono hI (.refl _), h.few, h.sq0, h.sq1⟩

theorem l_change {I : Gh} {L : List Seg} (r : Er) (hr : r.Ok rcells I) : PC Try.prog 10 #[r.v] I L fun K v => ∃ r' : Er, v = r'.v ∧ r'.Ok pcells K ∧ r'.abs = r.abs := by
  refine PC.of (n := 31) Try.func10 rfl Try.ntmps10 rfl fun I0 L0 hI0 hL0 => ?_
  have hr := hr.mono hI0
  have e1 := hr.add.len
  have few := hr.add.few
  have e2 := hr.drop.len
  have few2 := hr.few
  simp only [u64s, List.length_map] at e2
  refine EW_seq ?_
  -- region 0  law.go:38
  refine EW_region ?_
  refine EL_a rfl rfl rfl (oa_box rfl) ?_; intro b1
  refine EL_a rfl rfl rfl (oa_alloc z42) ?_; intro b2
  refine EL_nil ?_
  refine EQ_then (EQ_wp ?_)
  refine EW_seq ?_
  -- region 1 DRAWN  law.go:39
  refine EW_draw ([[(b1, .cells r.v.cells 35)]]) [.r, .r, .r, .r, .a, .s, .s, .y, .s, .a, .x] [0, 1, 2, 3, 5, 6, 4, 7, 8, 9, 10] mixed (by kernel_rfl) (by kernel_rfl) rfl ?_
  refine EP_r rfl rfl rfl rfl rfl (by first | exact ((Incl.nil L0).cons _).skip _ | exact (((Incl.nil L0).cons _).skip _).skip _) (by exact (os_field rfl fl35_0)) ?_
  refine EP_r rfl rfl rfl rfl rfl (by first | exact ((Incl.nil L0).cons _).skip _ | exact (((Incl.nil L0).cons _).skip _).skip _) (by exact (os_load_one rfl one4 (cells_own own_head rfl))) ?_
  refine EP_r rfl rfl rfl rfl rfl (by first | exact ((Incl.nil L0).cons _).skip _ | exact (((Incl.nil L0).cons _).skip _).skip _) (by exact (os_field rfl fl35_3)) ?_
  refine EP_r rfl rfl rfl rfl rfl (by first | exact ((Incl.nil L0).cons _).skip _ | exact (((Incl.nil L0).cons _).skip _).skip _) (by exact (os_load_one rfl one23 (cells_own own_head rfl))) ?_
  refine EP_s rfl rfl rfl rfl rfl (by exact (os_field rfl fl35_2)) ?_
  refine EP_s rfl rfl rfl rfl rfl (by exact (os_load_one rfl one33 (cells_own (own_tail own_head) rfl))) ?_
  refine EP_a rfl rfl rfl rfl rfl (by exact (oa_slice [] sl33 z23 rfl rfl rfl rfl)) ?_
  intro b10
  refine EP_k rfl rfl rfl rfl rfl (by exact (ox_append rfl rfl sl33 z23 rfl (by decide) (OwnRow.lit (xs := []) rfl (fun x hx => by cases hx) rfl (by decide)) pick0 ((hr.drop.up).src (by decide) (u64s_one _)) hr.drop.nil (by omega) (by unfold maxLen; omega))) (fun M u hp => by obtain ⟨_, _, _, rfl, _⟩ := hp; exact (((Incl.nil L0).cons _).skip _).skip _) ?_
  rintro L4 v13 ⟨ad, cd, Sd, rfl, rfl, hod, hnd⟩
  refine EP_s rfl rfl rfl rfl rfl (by exact (os_struct (cs := [_, _, _, _]) [(0, _), (3, _), (2, _)] pl42 z42 rfl rfl)) ?_
  refine EP_a rfl rfl rfl rfl rfl (by exact (oa_alloc z42)) ?_
  intro b3
  refine EP_u rfl rfl rfl rfl (by exact (ox_store rfl rfl sz42 rfl (by rfl) (.head .head))) ?_
  refine EP_nil ?_
  refine EQ_then (EQ_wp ?_)
  refine EW_seq ?_
  refine EW_seq ?_
  refine EW_freeze (S := Sd) (pickS pick0) fun I9 hI9 hS9 => ?_
  -- region 2  law.go:40
  refine EW_region ?_
  refine EL_s rfl rfl rfl (os_field rfl fl35_1) ?_
  refine EL_s rfl rfl rfl (os_load_one rfl one22 (cells_own (own_tail (own_tail own_head)) rfl)) ?_
  refine EL_s rfl rfl rfl (os_len rfl sl22) ?_
  refine EL_s rfl rfl rfl (os_move rfl) ?_
  refine EL_nil ?_
  refine EQ_then (EQ_wp ?_)
  refine EW_block ?_
  refine EW_loop (σ := Gh × Nat × Option Addr × Nat × Seg × List PF) (fun ⟨I1, k, a1, c1, S1, qs⟩ => [(2, .pointer (some ⟨b2, 0, none⟩)), (3, .pointer (some ⟨b3, 0, none⟩)), (16, r.ha.v), (17, .int .i64 (r.ha.n : Int)), (18, .int .i64 (k : Int))]) (fun ⟨I1, k, a1, c1, S1, qs⟩ => I1) (fun ⟨I1, k, a1, c1, S1, qs⟩ => S1 :: [(b3, .cells #[.bool r.reset, .slice a1 k c1, .slice ad (0 + r.hd.n) cd, .int .u64 r.sq] 42)] :: [(b2, .cells #[.bool false, .slice none 0 0, .slice none 0 0, .int .u64 0] 42)] :: L0) (fun ⟨I1, k, a1, c1, S1, qs⟩ => I9.le I1 ∧ k ≤ r.ha.n ∧ FOwn pcells 53 I1 a1 k c1 S1 qs ∧ qs.map (·.f) = (r.add.take k).map (·.f)) (fun ⟨I1, k, a1, c1, S1, qs⟩ => r.ha.n - k) (I9, 0, none, 0, [], []) ⟨.refl _, Nat.zero_le _, FOwn.empty _ _ _, rfl⟩ (by exact ⟨rfl, rfl, rfl, rfl, rfl, trivial⟩) (fun w h => h.incl (Incl.of_nil ((((Incl.refl L0).skip _).cons _).cons _))) ?_
  rintro ⟨I1, k, a1, c1, S1, qs⟩ ⟨hI1, hk, ho, hq⟩
  refine EW_seq ?_
  -- region 3  law.go:40
  refine EW_region ?_
  refine EL_s rfl rfl rfl (os_lss rfl rfl) ?_
  refine EL_nil ?_
  refine EQ_then (EQ_wp ?_)
  refine EW_seq ?_
  refine EW_cond rfl (fun h => ?_) (fun h => ?_)
  · try simp only [decide_eq_true_eq, decide_eq_false_iff_not, Bool.not_eq_true', Bool.not_eq_false'] at h
    refine EW_skip ?_
    refine EQ_then (EQ_wp ?_)
    refine EW_seq ?_
    refine EW_block ?_
    refine EW_seq ?_
    have hr1 := hr.add.mono (hI9.trans hI1) (Incl.nil (S1 :: [(b3, .cells #[.bool r.reset, .slice a1 k c1, .slice ad (0 + r.hd.n) cd, .int .u64 r.sq] 42)] :: [(b2, .cells #[.bool false, .slice none 0 0, .slice none 0 0, .int .u64 0] 42)] :: L0))
    obtain ⟨x, hx⟩ := get_some (l := r.add) (k := k) (by omega)
    have elen := ho.len
    -- region 4  law.go:40
    refine EW_region ?_
    refine EL_s rfl rfl rfl (os_at (k) rfl rfl (by omega) sl22 (by omega) (hr.add.row.some (by omega))) ?_
    refine EL_s rfl rfl rfl (os_load_agg (cs := rcells x) rfl agg55 (hr1.get hx)) ?_
    refine EL_a rfl rfl rfl (oa_alloc z55) ?_; intro b5
    refine EL_u rfl rfl (ox_store rfl rfl sz55 rfl (by rfl) (.head .head)) ?_
    refine EL_nil ?_
    refine EQ_then (EQ_wp ?_)
    -- region 5 DRAWN  law.go:41
    refine EW_draw [] [.s, .s, .s, .g, .a, .x, .s, .x] [0, 1, 2, 3, 4, 5, 6, 7] mixed (by kernel_rfl) (by kernel_rfl) rfl ?_
    refine EP_s rfl rfl rfl rfl rfl (by exact (os_field rfl fl42_1)) ?_
    refine EP_s rfl rfl rfl rfl rfl (by exact (os_load_one rfl one28 (cells_own (own_tail (own_tail own_head)) rfl))) ?_
    refine EP_s rfl rfl rfl rfl rfl (by exact (os_load_agg (cs := rcells x) rfl agg55 (cells_own own_head rfl))) ?_
    refine EP_g rfl rfl rfl rfl rfl (by exact (og_call (vs := [_]) body14 rfl (l_file (hr1.okAt hx)))) ?_
    intro I2 v25 hI2 hv25
    obtain ⟨q, rfl, hq1, hqf⟩ := hv25
    refine EP_a rfl rfl rfl rfl rfl (by exact (oa_slice [_] sl28 z53 rfl rfl rfl rfl)) ?_
    intro b26
    refine EP_y rfl rfl rfl rfl rfl (by exact (ox_append rfl rfl sl28 z53 rfl (by decide) ho.row (pickS (pickS pick0)) (src_p q) (fun h => by cases h) (by have := ho.few; omega) (by have := ho.few; unfold maxLen; omega))) ?_
    rintro L4 v16 ⟨a23, c23, S23, rfl, rfl, ho23, hn23, hc23⟩
    refine EP_s rfl rfl rfl rfl rfl (by exact (os_field rfl fl42_1)) ?_
    refine EP_u rfl rfl rfl rfl (by exact (ox_store rfl rfl sz28 rfl (by rfl) (.tail (.tail (.tail (.head .head)))))) ?_
    refine EP_nil ?_
    refine EQ_block_normal ?_
    refine EQ_then (EQ_wp ?_)
    -- region 6  law.go:40
    refine EW_region ?_
    refine EL_s rfl rfl rfl (os_add_in rfl rfl (IntWalk.i64_in _ (by omega))) ?_
    refine EL_s rfl rfl rfl (os_move rfl) ?_
    refine EL_nil ?_
    refine EQ_round (I2, k + 1, a23, c23, S23, qs ++ [q]) ?_ ?_ ?_ ?_
    · exact ⟨hI1.trans hI2, by omega, FOwn.snoc ho23 (fun p hp => (ho.ok p hp).mono hI2) hq1 (by rw [← elen]; omega), by rw [List.map_append, hq, take_snoc _ hx]; simp [hqf]⟩
    · first | omega | (dsimp only; omega)
    · exact ⟨rfl, rfl, rfl, rfl, rfl, trivial⟩
    · exact fun w h => h.incl (((((((Incl.refl L0).cons _).cons _).skip _).skip _)).cons _)
  · try simp only [decide_eq_true_eq, decide_eq_false_iff_not, Bool.not_eq_true', Bool.not_eq_false'] at h
    refine EW_exit ?_
    refine EQ_then_exit (EQ_then_exit (EQ_block_exit (?_)))
    refine EQ_then (EQ_wp ?_)
    refine EW_seq ?_
    refine EW_freeze (S := S1) pick0 fun I8 hI8 hS8 => ?_
    -- region 7  law.go:43
    refine EW_region ?_
    refine EL_s rfl rfl rfl (os_load_agg (cs := [_, _, _, _]) rfl agg42 (cells_own own_head rfl)) ?_
    refine EL_u rfl rfl (ox_store rfl rfl sz42 rfl (by rfl) (.tail (.head .head))) ?_
    refine EL_nil ?_
    refine EQ_then (EQ_wp ?_)
    refine EW_ret ?_
    exact pc_ret1 Try.results10 (rv_agg (cs := [_, _, _, _]) rfl agg42 (cells_own (own_tail own_head) rfl)) (hI9.trans (hI1.trans hI8)) (((Incl.refl _).skip _).skip _) ⟨⟨r.reset, ⟨a1, k, c1⟩, qs, ⟨ad, 0 + r.hd.n, cd⟩, r.drop, r.sq⟩, rfl, ⟨(ho.mono hI8).frow fun x hx => .inl (hS8 x hx), hod.row fun x hx => .inl ((hI1.trans hI8).imm _ _ (hS9 x hx)), hr.few, hr.sq0, hr.sq1⟩, by simp only [Er.abs, hq]; rw [List.take_of_length_le (by omega)]⟩ (.inl rfl)


end Go.Proofs.Ytodkbhbbdnjlcaa
