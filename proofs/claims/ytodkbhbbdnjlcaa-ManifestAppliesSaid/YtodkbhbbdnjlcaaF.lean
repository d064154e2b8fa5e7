/- Proved here: the part F of the proof that the law of this seat returns true for every input; no condition. -/
import Derived.Test.YtodkbhbbdnjlcaaE
set_option maxRecDepth 20000
set_option linter.unusedVariables false
set_option linter.unusedSimpArgs false
namespace Go.Proofs.Ytodkbhbbdnjlcaa
open Go Go.Gl


/-- Where the first that is so stands. -/
def idxF (pr : Fl → Bool) (l : List Fl) : Int := match l.findIdx? pr with | some i => (i : Int) | none => -1
theorem idx_at {pr : Fl → Bool} {l : List PF} {k : Nat} {x : PF} (h : (l.take k).all (fun p => !pr p.f) = true) (hx : l[k]? = some x) (hp : pr x.f = true) : idxF pr (l.map (·.f)) = k := by
  have : (l.map (·.f)).findIdx? pr = some k := by
    rw [List.findIdx?_eq_some_iff_getElem]
    obtain ⟨hk, hxk⟩ := List.getElem?_eq_some_iff.1 hx
    refine ⟨by simpa using hk, by simpa [hxk] using hp, fun j hj => ?_⟩
    have := List.all_eq_true.1 h l[j] (by rw [List.mem_take_iff_getElem]; exact ⟨j, by omega, rfl⟩)
    simpa using this
  rw [idxF, this]
theorem idx_none {pr : Fl → Bool} {l : List PF} (h : l.all (fun p => !pr p.f) = true) : idxF pr (l.map (·.f)) = -1 := by
  have : (l.map (·.f)).findIdx? pr = none := by
    rw [List.findIdx?_eq_none_iff]
    intro x hx
    obtain ⟨p, hp, rfl⟩ := List.mem_map.1 hx
    have := List.all_eq_true.1 h p hp
    simpa using this
  rw [idxF, this]
theorem idx_lt {pr : Fl → Bool} {l : List Fl} {i : Int} (h : idxF pr l = i) (h0 : 0 ≤ i) : i.toNat < l.length := by
  unfold idxF at h
  split at h
  · rename_i k hk
    have := List.findIdx?_eq_some_iff_getElem.1 hk
    obtain ⟨h1, _⟩ := this
    omega
  · omega
theorem all_snoc {l : List PF} {k : Nat} {x : PF} {g : PF → Bool} (h : (l.take k).all g = true) (hx : l[k]? = some x) (hg : g x = true) : (l.take (k + 1)).all g = true := by
  rw [List.take_add_one, hx]; simp [h, hg]
def sameFl (a b : Fl) : Bool := decide (a.num = b.num) && (decide (a.level = b.level) && (decide (a.count = b.count) && (decide (a.size = b.size) && (decide (a.first = b.first) && decide (a.last = b.last)))))
theorem sameFl_iff (a b : Fl) : sameFl a b = true ↔ a = b := by
  obtain ⟨a1, a2, a3, a4, a5, a6⟩ := a
  obtain ⟨b1, b2, b3, b4, b5, b6⟩ := b
  simp [sameFl]

theorem m_cl1 {I : Gh} {L : List Seg} (p : PF) {b : Nat} (z : Int) (hc : Cells I L ⟨b, 0, none⟩ [.int .u64 z]) : PC Try.prog 23 #[.agg (pcells p).toArray, .pointer (some ⟨b, 0, none⟩)] I L fun K v => v = .bool (decide (p.f.num = z)) := by
  refine PC.of (n := 8) Try.func23 rfl Try.ntmps23 rfl fun I0 L0 hI0 hL0 => ?_
  refine EW_seq ?_
  -- region 0  manifest.go:98
  refine EW_region ?_
  refine EL_a rfl rfl rfl (oa_box rfl) ?_; intro b2
  refine EL_s rfl rfl rfl (os_assign rfl) ?_
  refine EL_nil ?_
  refine EQ_then (EQ_wp ?_)
  refine EW_seq ?_
  -- region 1  manifest.go:98
  refine EW_region ?_
  refine EL_s rfl rfl rfl (os_field rfl fl53_1) ?_
  refine EL_s rfl rfl rfl (os_load_one rfl one23 (cells_own own_head rfl)) ?_
  refine EL_s rfl rfl rfl (os_load_one rfl one23 (hc.mono hI0 (hL0.skip _))) ?_
  refine EL_s rfl rfl rfl (os_eql rfl rfl) ?_
  refine EL_s rfl rfl rfl (os_assign rfl) ?_
  refine EL_nil ?_
  refine EQ_then (EQ_wp ?_)
  refine EW_ret ?_
  exact pc_ret1 Try.results23 (rv_tmp rfl) (.refl _) ((Incl.refl _).skip _) rfl (.inl rfl)


theorem cells_sub {I : Gh} {L : List Seg} {b o : Nat} {cs : List Value} {k : Nat} {v : Value} (h : Cells I L ⟨b, o, none⟩ cs) (hv : cs[k]? = some v) : Cells I L ⟨b, o + k, none⟩ [v] := by
  have := h.part k (ds := [v]) (fun j u hu => by
    cases j with
    | zero => simp only [List.getElem?_cons_zero, Option.some.injEq] at hu; subst hu; exact hv
    | succ j => simp at hu)
  rwa [addr_add _ rfl] at this

theorem m_cl2 {I : Gh} {L : List Seg} (p q : PF) {b : Nat} (hc : Cells I L ⟨b, 0, none⟩ (pcells q)) : PC Try.prog 26 #[.agg (pcells p).toArray, .pointer (some ⟨b, 0, none⟩)] I L fun K v => v = .bool (decide (p.f.num = q.f.num)) := by
  refine PC.of (n := 9) Try.func26 rfl Try.ntmps26 rfl fun I0 L0 hI0 hL0 => ?_
  refine EW_seq ?_
  -- region 0  manifest.go:106
  refine EW_region ?_
  refine EL_a rfl rfl rfl (oa_box rfl) ?_; intro b2
  refine EL_s rfl rfl rfl (os_assign rfl) ?_
  refine EL_nil ?_
  refine EQ_then (EQ_wp ?_)
  refine EW_seq ?_
  -- region 1  manifest.go:106
  refine EW_region ?_
  refine EL_s rfl rfl rfl (os_field rfl fl53_1) ?_
  refine EL_s rfl rfl rfl (os_load_one rfl one23 (cells_own own_head rfl)) ?_
  refine EL_s rfl rfl rfl (os_field rfl fl53_1) ?_
  refine EL_s rfl rfl rfl (os_load_one rfl one23 (cells_sub (hc.mono hI0 (hL0.skip _)) rfl)) ?_
  refine EL_s rfl rfl rfl (os_eql rfl rfl) ?_
  refine EL_s rfl rfl rfl (os_assign rfl) ?_
  refine EL_nil ?_
  refine EQ_then (EQ_wp ?_)
  refine EW_ret ?_
  exact pc_ret1 Try.results26 (rv_tmp rfl) (.refl _) ((Incl.refl _).skip _) rfl (.inl rfl)

theorem s_IndexFunc {I : Gh} {L : List Seg} {a : Option Addr} {m c : Nat} {ps : List PF} (hr : FRow pcells I L a m c ps) (cl : FuncId) (caps : List Value) (hcl : bodyB Try.prog cl) (pr : Fl → Bool) (hp : ∀ p ∈ ps, PC Try.prog cl ([Value.agg (pcells p).toArray] ++ caps).toArray I L fun _ u => u = .bool (pr p.f)) : PC Try.prog 22 #[.slice a m c, .func (.func cl) #[] caps.toArray] I L fun K v => v = .int .i64 (idxF pr (ps.map (·.f))) := by
  refine PC.of (n := 19) Try.func22 rfl Try.ntmps22 rfl fun I0 L0 hI0 hL0 => ?_
  have hr := hr.mono hI0 hL0
  have e1 := hr.len
  have few := hr.few
  refine EW_seq ?_
  -- region 0  slices.go:107
  refine EW_region ?_
  refine EL_s rfl rfl rfl (os_assign rfl) ?_
  refine EL_nil ?_
  refine EQ_then (EQ_wp ?_)
  refine EW_seq ?_
  refine EW_seq ?_
  -- region 1  slices.go:108
  refine EW_region ?_
  refine EL_s rfl rfl rfl (os_move rfl) ?_
  refine EL_s rfl rfl rfl (os_len rfl sl28) ?_
  refine EL_s rfl rfl rfl (os_move rfl) ?_
  refine EL_nil ?_
  refine EQ_then (EQ_wp ?_)
  refine EW_block ?_
  refine EW_loop (σ := Nat) (fun k => [(0, .slice a m c), (1, .func (.func cl) #[] caps.toArray), (6, .slice a m c), (7, .int .i64 (m : Int)), (8, .int .i64 (k : Int))]) (fun k => I0) (fun k => L0) (fun k => k ≤ m ∧ (ps.take k).all (fun p => !pr p.f) = true) (fun k => m - k) 0 ⟨Nat.zero_le _, rfl⟩ (by exact ⟨rfl, rfl, rfl, rfl, rfl, trivial⟩) (fun w h => h) ?_
  rintro k ⟨hk, ho⟩
  refine EW_seq ?_
  -- region 2  slices.go:108
  refine EW_region ?_
  refine EL_s rfl rfl rfl (os_lss rfl rfl) ?_
  refine EL_nil ?_
  refine EQ_then (EQ_wp ?_)
  refine EW_seq ?_
  refine EW_cond rfl (fun h => ?_) (fun h => ?_)
  · try simp only [decide_eq_true_eq, decide_eq_false_iff_not, Bool.not_eq_true', Bool.not_eq_false'] at h
    refine EW_skip ?_
    refine EQ_then (EQ_wp ?_)
    refine EW_seq ?_
    refine EW_block ?_
    refine EW_seq ?_
    obtain ⟨x, hx⟩ := get_some (l := ps) (k := k) (by omega)
    -- region 3  slices.go:108
    refine EW_region ?_
    refine EL_s rfl rfl rfl (os_move rfl) ?_
    refine EL_s rfl rfl rfl (os_assign rfl) ?_
    refine EL_nil ?_
    refine EQ_then (EQ_wp ?_)
    refine EW_seq ?_
    -- region 4  slices.go:109
    refine EW_region ?_
    refine EL_s rfl rfl rfl (os_move rfl) ?_
    refine EL_s rfl rfl rfl (os_move rfl) ?_
    refine EL_s rfl rfl rfl (os_move rfl) ?_
    refine EL_s rfl rfl rfl (os_at (k) rfl rfl (by omega) sl28 (by omega) (hr.row.some (by omega))) ?_
    refine EL_s rfl rfl rfl (os_load_agg (cs := pcells x) rfl agg53 (hr.get hx)) ?_
    refine EL_s rfl rfl rfl (os_callv (fs := []) (vs := [_]) rfl hcl rfl ((hp x (List.mem_of_getElem? hx)).le hI0 hL0)) ?_
    refine EL_nil ?_
    refine EQ_then (EQ_wp ?_)
    refine EW_cond rfl (fun h => ?_) (fun h => ?_)
    · try simp only [decide_eq_true_eq, decide_eq_false_iff_not, Bool.not_eq_true', Bool.not_eq_false'] at h
      have h3 := h
      refine EW_seq ?_
      -- region 5  slices.go:110
      refine EW_region ?_
      refine EL_s rfl rfl rfl (os_move rfl) ?_
      refine EL_s rfl rfl rfl (os_assign rfl) ?_
      refine EL_nil ?_
      refine EQ_then (EQ_wp ?_)
      refine EW_ret ?_
      refine EQ_block_ret (EQ_then_ret (EQ_then_ret (EQ_block_ret (EQ_then_ret (?_)))))
      exact pc_ret1 Try.results22 (rv_tmp rfl) (.refl _) (.refl _) (by rw [idx_at ho hx h3]) (.inl rfl)
    · try simp only [decide_eq_true_eq, decide_eq_false_iff_not, Bool.not_eq_true', Bool.not_eq_false'] at h
      have h3 := h
      refine EW_skip ?_
      refine EQ_block_normal ?_
      refine EQ_then (EQ_wp ?_)
      -- region 6  slices.go:108
      refine EW_region ?_
      refine EL_s rfl rfl rfl (os_add_in rfl rfl (IntWalk.i64_in _ (by omega))) ?_
      refine EL_s rfl rfl rfl (os_move rfl) ?_
      refine EL_nil ?_
      refine EQ_round (k + 1) ?_ ?_ ?_ ?_
      · exact ⟨by omega, all_snoc ho hx (by simp [h3])⟩
      · first | omega | (dsimp only; omega)
      · exact ⟨rfl, rfl, rfl, rfl, rfl, trivial⟩
      · exact fun w h => h
  · try simp only [decide_eq_true_eq, decide_eq_false_iff_not, Bool.not_eq_true', Bool.not_eq_false'] at h
    refine EW_exit ?_
    refine EQ_then_exit (EQ_then_exit (EQ_block_exit (?_)))
    refine EQ_then (EQ_wp ?_)
    refine EW_seq ?_
    -- region 7  slices.go:113
    refine EW_region ?_
    refine EL_s rfl rfl rfl (os_assign rfl) ?_
    refine EL_nil ?_
    refine EQ_then (EQ_wp ?_)
    refine EW_ret ?_
    exact pc_ret1 Try.results22 (rv_tmp rfl) (.refl _) (.refl _) (by rw [idx_none (by rw [List.take_of_length_le (by omega)] at ho; exact ho)]) (.inl rfl)

theorem s_ContainsFunc {I : Gh} {L : List Seg} {a : Option Addr} {m c : Nat} {ps : List PF} (hr : FRow pcells I L a m c ps) (cl : FuncId) (caps : List Value) (hcl : bodyB Try.prog cl) (pr : Fl → Bool) (hp : ∀ p ∈ ps, PC Try.prog cl ([Value.agg (pcells p).toArray] ++ caps).toArray I L fun _ u => u = .bool (pr p.f)) : PC Try.prog 25 #[.slice a m c, .func (.func cl) #[] caps.toArray] I L fun K v => v = .bool (decide (0 ≤ idxF pr (ps.map (·.f)))) := by
  refine PC.of (n := 9) Try.func25 rfl Try.ntmps25 rfl fun I0 L0 hI0 hL0 => ?_
  refine EW_seq ?_
  -- region 0  slices.go:124
  refine EW_region ?_
  refine EL_s rfl rfl rfl (os_assign rfl) ?_
  refine EL_nil ?_
  refine EQ_then (EQ_wp ?_)
  refine EW_seq ?_
  -- region 1  slices.go:125
  refine EW_region ?_
  refine EL_s rfl rfl rfl (os_move rfl) ?_
  refine EL_s rfl rfl rfl (os_move rfl) ?_
  refine EL_s rfl rfl rfl (os_call (vs := [_, _]) body22 rfl (s_IndexFunc (hr.mono hI0 hL0) cl caps hcl pr (fun p h => (hp p h).le hI0 hL0))) ?_
  refine EL_s rfl rfl rfl (os_geq rfl rfl) ?_
  refine EL_s rfl rfl rfl (os_assign rfl) ?_
  refine EL_nil ?_
  refine EQ_then (EQ_wp ?_)
  refine EW_ret ?_
  exact pc_ret1 Try.results25 (rv_tmp rfl) (.refl _) (.refl _) rfl (.inl rfl)

theorem r_SameFile {I : Gh} {L : List Seg} {p q : PF} (hp : p.Ok I) (hq : q.Ok I) : PC Try.prog 38 #[.agg (rcells p).toArray, .agg (rcells q).toArray] I L fun K v => v = .bool (sameFl p.f q.f) := by
  refine PC.of (n := 45) Try.func38 rfl Try.ntmps38 rfl fun I0 L0 hI0 hL0 => ?_
  have hp := hp.mono hI0
  have hq := hq.mono hI0
  refine EW_seq ?_
  -- region 0  ref.go:198
  refine EW_region ?_
  refine EL_a rfl rfl rfl (oa_box rfl) ?_; intro b2
  refine EL_a rfl rfl rfl (oa_box rfl) ?_; intro b3
  refine EL_s rfl rfl rfl (os_assign rfl) ?_
  refine EL_nil ?_
  refine EQ_then (EQ_wp ?_)
  refine EW_seq ?_
  -- region 1  ref.go:199
  refine EW_region ?_
  refine EL_s rfl rfl rfl (os_field rfl fl55_0) ?_
  refine EL_s rfl rfl rfl (os_load_one rfl one23 (cells_own (own_tail own_head) rfl)) ?_
  refine EL_s rfl rfl rfl (os_field rfl fl55_0) ?_
  refine EL_s rfl rfl rfl (os_load_one rfl one23 (cells_own own_head rfl)) ?_
  refine EL_s rfl rfl rfl (os_eql rfl rfl) ?_
  refine EL_s rfl rfl rfl (os_move rfl) ?_
  refine EL_split (t := 10) rfl (fun h => ?_) (fun h => ?_)
  · try simp only [decide_eq_true_eq, decide_eq_false_iff_not, Bool.not_eq_true', Bool.not_eq_false'] at h
    refine EL_yes (j := 5) (d := 10) (b := true) rfl rfl rfl ?_
    refine EL_s rfl rfl rfl (os_field rfl fl55_1) ?_
    refine EL_yes (j := 5) (d := 10) (b := true) rfl rfl rfl ?_
    refine EL_s rfl rfl rfl (os_load_one rfl one3 (cells_own (own_tail own_head) rfl)) ?_
    refine EL_yes (j := 5) (d := 10) (b := true) rfl rfl rfl ?_
    refine EL_s rfl rfl rfl (os_field rfl fl55_1) ?_
    refine EL_yes (j := 5) (d := 10) (b := true) rfl rfl rfl ?_
    refine EL_s rfl rfl rfl (os_load_one rfl one3 (cells_own own_head rfl)) ?_
    refine EL_yes (j := 5) (d := 10) (b := true) rfl rfl rfl ?_
    refine EL_s rfl rfl rfl (os_eql rfl rfl) ?_
    refine EL_s rfl rfl rfl (os_pick_t rfl rfl) ?_
    refine EL_s rfl rfl rfl (os_move rfl) ?_
    refine EL_split (t := 17) rfl (fun h => ?_) (fun h => ?_)
    · try simp only [decide_eq_true_eq, decide_eq_false_iff_not, Bool.not_eq_true', Bool.not_eq_false'] at h
      refine EL_yes (j := 12) (d := 17) (b := true) rfl rfl rfl ?_
      refine EL_s rfl rfl rfl (os_field rfl fl55_4) ?_
      refine EL_yes (j := 12) (d := 17) (b := true) rfl rfl rfl ?_
      refine EL_s rfl rfl rfl (os_load_one rfl one3 (cells_own (own_tail own_head) rfl)) ?_
      refine EL_yes (j := 12) (d := 17) (b := true) rfl rfl rfl ?_
      refine EL_s rfl rfl rfl (os_field rfl fl55_4) ?_
      refine EL_yes (j := 12) (d := 17) (b := true) rfl rfl rfl ?_
      refine EL_s rfl rfl rfl (os_load_one rfl one3 (cells_own own_head rfl)) ?_
      refine EL_yes (j := 12) (d := 17) (b := true) rfl rfl rfl ?_
      refine EL_s rfl rfl rfl (os_eql rfl rfl) ?_
      refine EL_s rfl rfl rfl (os_pick_t rfl rfl) ?_
      refine EL_s rfl rfl rfl (os_move rfl) ?_
      refine EL_split (t := 24) rfl (fun h => ?_) (fun h => ?_)
      · try simp only [decide_eq_true_eq, decide_eq_false_iff_not, Bool.not_eq_true', Bool.not_eq_false'] at h
        refine EL_yes (j := 19) (d := 24) (b := true) rfl rfl rfl ?_
        refine EL_s rfl rfl rfl (os_field rfl fl55_5) ?_
        refine EL_yes (j := 19) (d := 24) (b := true) rfl rfl rfl ?_
        refine EL_s rfl rfl rfl (os_load_one rfl one3 (cells_own (own_tail own_head) rfl)) ?_
        refine EL_yes (j := 19) (d := 24) (b := true) rfl rfl rfl ?_
        refine EL_s rfl rfl rfl (os_field rfl fl55_5) ?_
        refine EL_yes (j := 19) (d := 24) (b := true) rfl rfl rfl ?_
        refine EL_s rfl rfl rfl (os_load_one rfl one3 (cells_own own_head rfl)) ?_
        refine EL_yes (j := 19) (d := 24) (b := true) rfl rfl rfl ?_
        refine EL_s rfl rfl rfl (os_eql rfl rfl) ?_
        refine EL_s rfl rfl rfl (os_pick_t rfl rfl) ?_
        refine EL_s rfl rfl rfl (os_move rfl) ?_
        refine EL_split (t := 31) rfl (fun h => ?_) (fun h => ?_)
        · try simp only [decide_eq_true_eq, decide_eq_false_iff_not, Bool.not_eq_true', Bool.not_eq_false'] at h
          refine EL_yes (j := 26) (d := 31) (b := true) rfl rfl rfl ?_
          refine EL_s rfl rfl rfl (os_field rfl fl55_2) ?_
          refine EL_yes (j := 26) (d := 31) (b := true) rfl rfl rfl ?_
          refine EL_s rfl rfl rfl (os_load_one rfl one49 (cells_own (own_tail own_head) rfl)) ?_
          refine EL_yes (j := 26) (d := 31) (b := true) rfl rfl rfl ?_
          refine EL_s rfl rfl rfl (os_field rfl fl55_2) ?_
          refine EL_yes (j := 26) (d := 31) (b := true) rfl rfl rfl ?_
          refine EL_s rfl rfl rfl (os_load_one rfl one49 (cells_own own_head rfl)) ?_
          refine EL_yes (j := 26) (d := 31) (b := true) rfl rfl rfl ?_
          refine EL_s rfl rfl rfl (os_call (vs := [_, _]) body44 rfl (ref_Equal hp.first.up hq.first.up)) ?_
          refine EL_s rfl rfl rfl (os_pick_t rfl rfl) ?_
          refine EL_s rfl rfl rfl (os_move rfl) ?_
          refine EL_split (t := 38) rfl (fun h => ?_) (fun h => ?_)
          · try simp only [decide_eq_true_eq, decide_eq_false_iff_not, Bool.not_eq_true', Bool.not_eq_false'] at h
            refine EL_yes (j := 33) (d := 38) (b := true) rfl rfl rfl ?_
            refine EL_s rfl rfl rfl (os_field rfl fl55_3) ?_
            refine EL_yes (j := 33) (d := 38) (b := true) rfl rfl rfl ?_
            refine EL_s rfl rfl rfl (os_load_one rfl one49 (cells_own (own_tail own_head) rfl)) ?_
            refine EL_yes (j := 33) (d := 38) (b := true) rfl rfl rfl ?_
            refine EL_s rfl rfl rfl (os_field rfl fl55_3) ?_
            refine EL_yes (j := 33) (d := 38) (b := true) rfl rfl rfl ?_
            refine EL_s rfl rfl rfl (os_load_one rfl one49 (cells_own own_head rfl)) ?_
            refine EL_yes (j := 33) (d := 38) (b := true) rfl rfl rfl ?_
            refine EL_s rfl rfl rfl (os_call (vs := [_, _]) body44 rfl (ref_Equal hp.last.up hq.last.up)) ?_
            refine EL_s rfl rfl rfl (os_pick_t rfl rfl) ?_
            refine EL_s rfl rfl rfl (os_assign rfl) ?_
            refine EL_nil ?_
            refine EQ_then (EQ_wp ?_)
            refine EW_ret ?_
            exact pc_ret1 Try.results38 (rv_tmp rfl) (.refl _) (((Incl.refl _).skip _).skip _) (by simp [sameFl, *]) (.inl rfl)
          · try simp only [decide_eq_true_eq, decide_eq_false_iff_not, Bool.not_eq_true', Bool.not_eq_false'] at h
            refine EL_no rfl rfl rfl rfl rfl rfl ?_
            refine EL_no rfl rfl rfl rfl rfl rfl ?_
            refine EL_no rfl rfl rfl rfl rfl rfl ?_
            refine EL_no rfl rfl rfl rfl rfl rfl ?_
            refine EL_no rfl rfl rfl rfl rfl rfl ?_
            refine EL_s rfl rfl rfl (os_pick_f rfl rfl) ?_
            refine EL_s rfl rfl rfl (os_assign rfl) ?_
            refine EL_nil ?_
            refine EQ_then (EQ_wp ?_)
            refine EW_ret ?_
            exact pc_ret1 Try.results38 (rv_tmp rfl) (.refl _) (((Incl.refl _).skip _).skip _) (by simp [sameFl, *]) (.inl rfl)
        · try simp only [decide_eq_true_eq, decide_eq_false_iff_not, Bool.not_eq_true', Bool.not_eq_false'] at h
          refine EL_no rfl rfl rfl rfl rfl rfl ?_
          refine EL_no rfl rfl rfl rfl rfl rfl ?_
          refine EL_no rfl rfl rfl rfl rfl rfl ?_
          refine EL_no rfl rfl rfl rfl rfl rfl ?_
          refine EL_no rfl rfl rfl rfl rfl rfl ?_
          refine EL_s rfl rfl rfl (os_pick_f rfl rfl) ?_
          refine EL_s rfl rfl rfl (os_move rfl) ?_
          refine EL_no rfl rfl rfl rfl rfl rfl ?_
          refine EL_no rfl rfl rfl rfl rfl rfl ?_
          refine EL_no rfl rfl rfl rfl rfl rfl ?_
          refine EL_no rfl rfl rfl rfl rfl rfl ?_
          refine EL_no rfl rfl rfl rfl rfl rfl ?_
          refine EL_s rfl rfl rfl (os_pick_f rfl rfl) ?_
          refine EL_s rfl rfl rfl (os_assign rfl) ?_
          refine EL_nil ?_
          refine EQ_then (EQ_wp ?_)
          refine EW_ret ?_
          exact pc_ret1 Try.results38 (rv_tmp rfl) (.refl _) (((Incl.refl _).skip _).skip _) (by simp [sameFl, *]) (.inl rfl)
      · try simp only [decide_eq_true_eq, decide_eq_false_iff_not, Bool.not_eq_true', Bool.not_eq_false'] at h
        refine EL_no rfl rfl rfl rfl rfl rfl ?_
        refine EL_no rfl rfl rfl rfl rfl rfl ?_
        refine EL_no rfl rfl rfl rfl rfl rfl ?_
        refine EL_no rfl rfl rfl rfl rfl rfl ?_
        refine EL_no rfl rfl rfl rfl rfl rfl ?_
        refine EL_s rfl rfl rfl (os_pick_f rfl rfl) ?_
        refine EL_s rfl rfl rfl (os_move rfl) ?_
        refine EL_no rfl rfl rfl rfl rfl rfl ?_
        refine EL_no rfl rfl rfl rfl rfl rfl ?_
        refine EL_no rfl rfl rfl rfl rfl rfl ?_
        refine EL_no rfl rfl rfl rfl rfl rfl ?_
        refine EL_no rfl rfl rfl rfl rfl rfl ?_
        refine EL_s rfl rfl rfl (os_pick_f rfl rfl) ?_
        refine EL_s rfl rfl rfl (os_move rfl) ?_
        refine EL_no rfl rfl rfl rfl rfl rfl ?_
        refine EL_no rfl rfl rfl rfl rfl rfl ?_
        refine EL_no rfl rfl rfl rfl rfl rfl ?_
        refine EL_no rfl rfl rfl rfl rfl rfl ?_
        refine EL_no rfl rfl rfl rfl rfl rfl ?_
        refine EL_s rfl rfl rfl (os_pick_f rfl rfl) ?_
        refine EL_s rfl rfl rfl (os_assign rfl) ?_
        refine EL_nil ?_
        refine EQ_then (EQ_wp ?_)
        refine EW_ret ?_
        exact pc_ret1 Try.results38 (rv_tmp rfl) (.refl _) (((Incl.refl _).skip _).skip _) (by simp [sameFl, *]) (.inl rfl)
    · try simp only [decide_eq_true_eq, decide_eq_false_iff_not, Bool.not_eq_true', Bool.not_eq_false'] at h
      refine EL_no rfl rfl rfl rfl rfl rfl ?_
      refine EL_no rfl rfl rfl rfl rfl rfl ?_
      refine EL_no rfl rfl rfl rfl rfl rfl ?_
      refine EL_no rfl rfl rfl rfl rfl rfl ?_
      refine EL_no rfl rfl rfl rfl rfl rfl ?_
      refine EL_s rfl rfl rfl (os_pick_f rfl rfl) ?_
      refine EL_s rfl rfl rfl (os_move rfl) ?_
      refine EL_no rfl rfl rfl rfl rfl rfl ?_
      refine EL_no rfl rfl rfl rfl rfl rfl ?_
      refine EL_no rfl rfl rfl rfl rfl rfl ?_
      refine EL_no rfl rfl rfl rfl rfl rfl ?_
      refine EL_no rfl rfl rfl rfl rfl rfl ?_
      refine EL_s rfl rfl rfl (os_pick_f rfl rfl) ?_
      refine EL_s rfl rfl rfl (os_move rfl) ?_
      refine EL_no rfl rfl rfl rfl rfl rfl ?_
      refine EL_no rfl rfl rfl rfl rfl rfl ?_
      refine EL_no rfl rfl rfl rfl rfl rfl ?_
      refine EL_no rfl rfl rfl rfl rfl rfl ?_
      refine EL_no rfl rfl rfl rfl rfl rfl ?_
      refine EL_s rfl rfl rfl (os_pick_f rfl rfl) ?_
      refine EL_s rfl rfl rfl (os_move rfl) ?_
      refine EL_no rfl rfl rfl rfl rfl rfl ?_
      refine EL_no rfl rfl rfl rfl rfl rfl ?_
      refine EL_no rfl rfl rfl rfl rfl rfl ?_
      refine EL_no rfl rfl rfl rfl rfl rfl ?_
      refine EL_no rfl rfl rfl rfl rfl rfl ?_
      refine EL_s rfl rfl rfl (os_pick_f rfl rfl) ?_
      refine EL_s rfl rfl rfl (os_assign rfl) ?_
      refine EL_nil ?_
      refine EQ_then (EQ_wp ?_)
      refine EW_ret ?_
      exact pc_ret1 Try.results38 (rv_tmp rfl) (.refl _) (((Incl.refl _).skip _).skip _) (by simp [sameFl, *]) (.inl rfl)
  · try simp only [decide_eq_true_eq, decide_eq_false_iff_not, Bool.not_eq_true', Bool.not_eq_false'] at h
    refine EL_no rfl rfl rfl rfl rfl rfl ?_
    refine EL_no rfl rfl rfl rfl rfl rfl ?_
    refine EL_no rfl rfl rfl rfl rfl rfl ?_
    refine EL_no rfl rfl rfl rfl rfl rfl ?_
    refine EL_no rfl rfl rfl rfl rfl rfl ?_
    refine EL_s rfl rfl rfl (os_pick_f rfl rfl) ?_
    refine EL_s rfl rfl rfl (os_move rfl) ?_
    refine EL_no rfl rfl rfl rfl rfl rfl ?_
    refine EL_no rfl rfl rfl rfl rfl rfl ?_
    refine EL_no rfl rfl rfl rfl rfl rfl ?_
    refine EL_no rfl rfl rfl rfl rfl rfl ?_
    refine EL_no rfl rfl rfl rfl rfl rfl ?_
    refine EL_s rfl rfl rfl (os_pick_f rfl rfl) ?_
    refine EL_s rfl rfl rfl (os_move rfl) ?_
    refine EL_no rfl rfl rfl rfl rfl rfl ?_
    refine EL_no rfl rfl rfl rfl rfl rfl ?_
    refine EL_no rfl rfl rfl rfl rfl rfl ?_
    refine EL_no rfl rfl rfl rfl rfl rfl ?_
    refine EL_no rfl rfl rfl rfl rfl rfl ?_
    refine EL_s rfl rfl rfl (os_pick_f rfl rfl) ?_
    refine EL_s rfl rfl rfl (os_move rfl) ?_
    refine EL_no rfl rfl rfl rfl rfl rfl ?_
    refine EL_no rfl rfl rfl rfl rfl rfl ?_
    refine EL_no rfl rfl rfl rfl rfl rfl ?_
    refine EL_no rfl rfl rfl rfl rfl rfl ?_
    refine EL_no rfl rfl rfl rfl rfl rfl ?_
    refine EL_s rfl rfl rfl (os_pick_f rfl rfl) ?_
    refine EL_s rfl rfl rfl (os_move rfl) ?_
    refine EL_no rfl rfl rfl rfl rfl rfl ?_
    refine EL_no rfl rfl rfl rfl rfl rfl ?_
    refine EL_no rfl rfl rfl rfl rfl rfl ?_
    refine EL_no rfl rfl rfl rfl rfl rfl ?_
    refine EL_no rfl rfl rfl rfl rfl rfl ?_
    refine EL_s rfl rfl rfl (os_pick_f rfl rfl) ?_
    refine EL_s rfl rfl rfl (os_assign rfl) ?_
    refine EL_nil ?_
    refine EQ_then (EQ_wp ?_)
    refine EW_ret ?_
    exact pc_ret1 Try.results38 (rv_tmp rfl) (.refl _) (((Incl.refl _).skip _).skip _) (by simp [sameFl, *]) (.inl rfl)

theorem r_sameFiles {I : Gh} {L : List Seg} {a a' : Option Addr} {m c m' c' : Nat} {ps qs : List PF} (h1 : FRow rcells I L a m c ps) (h2 : FRow rcells I L a' m' c' qs) : PC Try.prog 29 #[.slice a m c, .slice a' m' c'] I L fun K v => v = .bool (decide (ps.map (·.f) = qs.map (·.f))) := by
  refine PC.of (n := 27) Try.func29 rfl Try.ntmps29 rfl fun I0 L0 hI0 hL0 => ?_
  have h1 := h1.mono hI0 hL0
  have h2 := h2.mono hI0 hL0
  have e1 := h1.len
  have e2 := h2.len
  have few := h1.few
  refine EW_seq ?_
  -- region 0  ref.go:202
  refine EW_region ?_
  refine EL_s rfl rfl rfl (os_assign rfl) ?_
  refine EL_nil ?_
  refine EQ_then (EQ_wp ?_)
  refine EW_seq ?_
  refine EW_seq ?_
  -- region 1  ref.go:203
  refine EW_region ?_
  refine EL_s rfl rfl rfl (os_move rfl) ?_
  refine EL_s rfl rfl rfl (os_len rfl sl22) ?_
  refine EL_s rfl rfl rfl (os_move rfl) ?_
  refine EL_s rfl rfl rfl (os_len rfl sl22) ?_
  refine EL_s rfl rfl rfl (os_neq rfl rfl) ?_
  refine EL_nil ?_
  refine EQ_then (EQ_wp ?_)
  refine EW_cond rfl (fun h => ?_) (fun h => ?_)
  · try simp only [decide_eq_true_eq, decide_eq_false_iff_not, Bool.not_eq_true', Bool.not_eq_false'] at h
    refine EW_seq ?_
    -- region 2  ref.go:204
    refine EW_region ?_
    refine EL_s rfl rfl rfl (os_assign rfl) ?_
    refine EL_nil ?_
    refine EQ_then (EQ_wp ?_)
    refine EW_ret ?_
    refine EQ_then_ret (?_)
    exact pc_ret1 Try.results29 (rv_tmp rfl) (.refl _) (.refl _) (by rw [decide_eq_false (fun he => by have := congrArg List.length he; simp at this; omega)]) (.inl rfl)
  · try simp only [decide_eq_true_eq, decide_eq_false_iff_not, Bool.not_eq_true', Bool.not_eq_false'] at h
    have hne : m = m' := by omega
    refine EW_skip ?_
    refine EQ_then (EQ_wp ?_)
    refine EW_seq ?_
    refine EW_seq ?_
    -- region 3  ref.go:206
    refine EW_region ?_
    refine EL_s rfl rfl rfl (os_assign rfl) ?_
    refine EL_nil ?_
    refine EQ_then (EQ_wp ?_)
    refine EW_block ?_
    refine EW_loop (σ := Nat) (fun k => [(0, .slice a m c), (1, .slice a' m' c'), (5, .int .i64 (k : Int))]) (fun k => I0) (fun k => L0) (fun k => k ≤ m ∧ (ps.take k).map (·.f) = (qs.take k).map (·.f)) (fun k => m - k) 0 ⟨Nat.zero_le _, rfl⟩ (by exact ⟨rfl, rfl, rfl, trivial⟩) (fun w h => h) ?_
    rintro k ⟨hk1, hk3⟩
    refine EW_seq ?_
    refine EW_seq ?_
    -- region 4  ref.go:206
    refine EW_region ?_
    refine EL_s rfl rfl rfl (os_move rfl) ?_
    refine EL_s rfl rfl rfl (os_move rfl) ?_
    refine EL_s rfl rfl rfl (os_len rfl sl22) ?_
    refine EL_s rfl rfl rfl (os_lss rfl rfl) ?_
    refine EL_nil ?_
    refine EQ_then (EQ_wp ?_)
    refine EW_cond rfl (fun h => ?_) (fun h => ?_)
    · try simp only [decide_eq_true_eq, decide_eq_false_iff_not, Bool.not_eq_true', Bool.not_eq_false'] at h
      refine EW_skip ?_
      refine EQ_then (EQ_wp ?_)
      refine EW_seq ?_
      refine EW_block ?_
      refine EW_seq ?_
      obtain ⟨x, hx⟩ := get_some (l := ps) (k := k) (by omega)
      obtain ⟨y, hy⟩ := get_some (l := qs) (k := k) (by omega)
      -- region 6 DRAWN  ref.go:207
      refine EW_draw [] [.s, .s, .s, .s, .s, .s, .s, .s, .s, .s] [0, 1, 2, 3, 4, 5, 6, 7, 8, 9] mixed (by kernel_rfl) (by kernel_rfl) rfl ?_
      refine EP_s rfl rfl rfl rfl rfl (by exact (os_move rfl)) ?_
      refine EP_s rfl rfl rfl rfl rfl (by exact (os_move rfl)) ?_
      refine EP_s rfl rfl rfl rfl rfl (by exact (os_at (k) rfl rfl (by omega) sl22 (by omega) (h1.row.some (by omega)))) ?_
      refine EP_s rfl rfl rfl rfl rfl (by exact (os_load_agg (cs := rcells x) rfl agg55 (h1.get hx))) ?_
      refine EP_s rfl rfl rfl rfl rfl (by exact (os_move rfl)) ?_
      refine EP_s rfl rfl rfl rfl rfl (by exact (os_move rfl)) ?_
      refine EP_s rfl rfl rfl rfl rfl (by exact (os_at (k) rfl rfl (by omega) sl22 (by omega) (h2.row.some (by omega)))) ?_
      refine EP_s rfl rfl rfl rfl rfl (by exact (os_load_agg (cs := rcells y) rfl agg55 (h2.get hy))) ?_
      refine EP_s rfl rfl rfl rfl rfl (by exact (os_call (vs := [_, _]) body38 rfl (r_SameFile (h1.okAt hx) (h2.okAt hy)))) ?_
      refine EP_s rfl rfl rfl rfl rfl (by exact (os_not rfl)) ?_
      refine EP_nil ?_
      refine EQ_then (EQ_wp ?_)
      refine EW_cond rfl (fun h => ?_) (fun h => ?_)
      · try simp only [decide_eq_true_eq, decide_eq_false_iff_not, Bool.not_eq_true', Bool.not_eq_false'] at h
        have h4 := h
        refine EW_seq ?_
        -- region 7  ref.go:208
        refine EW_region ?_
        refine EL_s rfl rfl rfl (os_assign rfl) ?_
        refine EL_nil ?_
        refine EQ_then (EQ_wp ?_)
        refine EW_ret ?_
        refine EQ_block_ret (EQ_then_ret (EQ_then_ret (EQ_block_ret (EQ_then_ret (?_)))))
        exact pc_ret1 Try.results29 (rv_tmp rfl) (.refl _) (.refl _) (by rw [decide_eq_false (fun he => by have h5 := congrArg (·[k]?) he; simp [hx, hy] at h5; rw [(sameFl_iff _ _).2 h5] at h4; cases h4)]) (.inl rfl)
      · try simp only [decide_eq_true_eq, decide_eq_false_iff_not, Bool.not_eq_true', Bool.not_eq_false'] at h
        have h4 : x.f = y.f := by simpa [sameFl_iff] using h
        refine EW_skip ?_
        refine EQ_block_normal ?_
        refine EQ_then (EQ_wp ?_)
        -- region 5  ref.go:206
        refine EW_region ?_
        refine EL_s rfl rfl rfl (os_move rfl) ?_
        refine EL_s rfl rfl rfl (os_add_in rfl rfl (IntWalk.i64_in _ (by omega))) ?_
        refine EL_s rfl rfl rfl (os_assign rfl) ?_
        refine EL_nil ?_
        refine EQ_round (k + 1) ?_ ?_ ?_ ?_
        · exact ⟨by omega, by rw [take_snoc _ hx, take_snoc _ hy, hk3, h4]⟩
        · first | omega | (dsimp only; omega)
        · exact ⟨rfl, rfl, rfl, trivial⟩
        · exact fun w h => h
    · try simp only [decide_eq_true_eq, decide_eq_false_iff_not, Bool.not_eq_true', Bool.not_eq_false'] at h
      refine EW_exit ?_
      refine EQ_then_exit (EQ_then_exit (EQ_block_exit (?_)))
      refine EQ_then (EQ_wp ?_)
      refine EW_seq ?_
      -- region 8  ref.go:211
      refine EW_region ?_
      refine EL_s rfl rfl rfl (os_assign rfl) ?_
      refine EL_nil ?_
      refine EQ_then (EQ_wp ?_)
      refine EW_ret ?_
      exact pc_ret1 Try.results29 (rv_tmp rfl) (.refl _) (.refl _) (by rw [decide_eq_true (by rw [List.take_of_length_le (by omega), List.take_of_length_le (by omega)] at hk3; exact hk3)]) (.inl rfl)


def sameV (a b : V) : Bool := decide (a.nx = b.nx) && (decide (a.sq = b.sq) && decide (a.fs = b.fs))
theorem sameV_iff (a b : V) : sameV a b = true ↔ a = b := by
  obtain ⟨a1, a2, a3⟩ := a
  obtain ⟨b1, b2, b3⟩ := b
  simp only [sameV, Bool.and_eq_true, decide_eq_true_eq, V.mk.injEq]
  constructor
  · rintro ⟨h1, h2, h3⟩; exact ⟨h3, h1, h2⟩
  · rintro ⟨h1, h2, h3⟩; exact ⟨h2, h3, h1⟩

theorem r_SameVersion {I : Gh} {L : List Seg} {p q : Vr} (hp : p.Ok rcells I) (hq : q.Ok rcells I) : PC Try.prog 12 #[p.v, q.v] I L fun K v => v = .bool (sameV p.abs q.abs) := by
  refine PC.of (n := 24) Try.func12 rfl Try.ntmps12 rfl fun I0 L0 hI0 hL0 => ?_
  have hp := hp.mono hI0
  have hq := hq.mono hI0
  refine EW_seq ?_
  -- region 0  ref.go:214
  refine EW_region ?_
  refine EL_a rfl rfl rfl (oa_box rfl) ?_; intro b2
  refine EL_a rfl rfl rfl (oa_box rfl) ?_; intro b3
  refine EL_s rfl rfl rfl (os_assign rfl) ?_
  refine EL_nil ?_
  refine EQ_then (EQ_wp ?_)
  refine EW_seq ?_
  -- region 1  ref.go:215
  refine EW_region ?_
  refine EL_s rfl rfl rfl (os_field rfl fl25_1) ?_
  refine EL_s rfl rfl rfl (os_load_one rfl one23 (cells_own (own_tail own_head) rfl)) ?_
  refine EL_s rfl rfl rfl (os_field rfl fl25_1) ?_
  refine EL_s rfl rfl rfl (os_load_one rfl one23 (cells_own own_head rfl)) ?_
  refine EL_s rfl rfl rfl (os_eql rfl rfl) ?_
  refine EL_s rfl rfl rfl (os_move rfl) ?_
  refine EL_split (t := 10) rfl (fun h => ?_) (fun h => ?_)
  · try simp only [decide_eq_true_eq, decide_eq_false_iff_not, Bool.not_eq_true', Bool.not_eq_false'] at h
    refine EL_yes (j := 5) (d := 10) (b := true) rfl rfl rfl ?_
    refine EL_s rfl rfl rfl (os_field rfl fl25_2) ?_
    refine EL_yes (j := 5) (d := 10) (b := true) rfl rfl rfl ?_
    refine EL_s rfl rfl rfl (os_load_one rfl one23 (cells_own (own_tail own_head) rfl)) ?_
    refine EL_yes (j := 5) (d := 10) (b := true) rfl rfl rfl ?_
    refine EL_s rfl rfl rfl (os_field rfl fl25_2) ?_
    refine EL_yes (j := 5) (d := 10) (b := true) rfl rfl rfl ?_
    refine EL_s rfl rfl rfl (os_load_one rfl one23 (cells_own own_head rfl)) ?_
    refine EL_yes (j := 5) (d := 10) (b := true) rfl rfl rfl ?_
    refine EL_s rfl rfl rfl (os_eql rfl rfl) ?_
    refine EL_s rfl rfl rfl (os_pick_t rfl rfl) ?_
    refine EL_s rfl rfl rfl (os_move rfl) ?_
    refine EL_split (t := 17) rfl (fun h => ?_) (fun h => ?_)
    · try simp only [decide_eq_true_eq, decide_eq_false_iff_not, Bool.not_eq_true', Bool.not_eq_false'] at h
      refine EL_yes (j := 12) (d := 17) (b := true) rfl rfl rfl ?_
      refine EL_s rfl rfl rfl (os_field rfl fl25_0) ?_
      refine EL_yes (j := 12) (d := 17) (b := true) rfl rfl rfl ?_
      refine EL_s rfl rfl rfl (os_load_one rfl one22 (cells_own (own_tail own_head) rfl)) ?_
      refine EL_yes (j := 12) (d := 17) (b := true) rfl rfl rfl ?_
      refine EL_s rfl rfl rfl (os_field rfl fl25_0) ?_
      refine EL_yes (j := 12) (d := 17) (b := true) rfl rfl rfl ?_
      refine EL_s rfl rfl rfl (os_load_one rfl one22 (cells_own own_head rfl)) ?_
      refine EL_yes (j := 12) (d := 17) (b := true) rfl rfl rfl ?_
      refine EL_s rfl rfl rfl (os_call (vs := [_, _]) body29 rfl (r_sameFiles (hp.row.mono (.refl _) (.nil _)) (hq.row.mono (.refl _) (.nil _)))) ?_
      refine EL_s rfl rfl rfl (os_pick_t rfl rfl) ?_
      refine EL_s rfl rfl rfl (os_assign rfl) ?_
      refine EL_nil ?_
      refine EQ_then (EQ_wp ?_)
      refine EW_ret ?_
      exact pc_ret1 Try.results12 (rv_tmp rfl) (.refl _) (((Incl.refl _).skip _).skip _) (by simp [sameV, Vr.abs, *]) (.inl rfl)
    · try simp only [decide_eq_true_eq, decide_eq_false_iff_not, Bool.not_eq_true', Bool.not_eq_false'] at h
      refine EL_no rfl rfl rfl rfl rfl rfl ?_
      refine EL_no rfl rfl rfl rfl rfl rfl ?_
      refine EL_no rfl rfl rfl rfl rfl rfl ?_
      refine EL_no rfl rfl rfl rfl rfl rfl ?_
      refine EL_no rfl rfl rfl rfl rfl rfl ?_
      refine EL_s rfl rfl rfl (os_pick_f rfl rfl) ?_
      refine EL_s rfl rfl rfl (os_assign rfl) ?_
      refine EL_nil ?_
      refine EQ_then (EQ_wp ?_)
      refine EW_ret ?_
      exact pc_ret1 Try.results12 (rv_tmp rfl) (.refl _) (((Incl.refl _).skip _).skip _) (by simp [sameV, Vr.abs, *]) (.inl rfl)
  · try simp only [decide_eq_true_eq, decide_eq_false_iff_not, Bool.not_eq_true', Bool.not_eq_false'] at h
    refine EL_no rfl rfl rfl rfl rfl rfl ?_
    refine EL_no rfl rfl rfl rfl rfl rfl ?_
    refine EL_no rfl rfl rfl rfl rfl rfl ?_
    refine EL_no rfl rfl rfl rfl rfl rfl ?_
    refine EL_no rfl rfl rfl rfl rfl rfl ?_
    refine EL_s rfl rfl rfl (os_pick_f rfl rfl) ?_
    refine EL_s rfl rfl rfl (os_move rfl) ?_
    refine EL_no rfl rfl rfl rfl rfl rfl ?_
    refine EL_no rfl rfl rfl rfl rfl rfl ?_
    refine EL_no rfl rfl rfl rfl rfl rfl ?_
    refine EL_no rfl rfl rfl rfl rfl rfl ?_
    refine EL_no rfl rfl rfl rfl rfl rfl ?_
    refine EL_s rfl rfl rfl (os_pick_f rfl rfl) ?_
    refine EL_s rfl rfl rfl (os_assign rfl) ?_
    refine EL_nil ?_
    refine EQ_then (EQ_wp ?_)
    refine EW_ret ?_
    exact pc_ret1 Try.results12 (rv_tmp rfl) (.refl _) (((Incl.refl _).skip _).skip _) (by simp [sameV, Vr.abs, *]) (.inl rfl)


end Go.Proofs.Ytodkbhbbdnjlcaa
