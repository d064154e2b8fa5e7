/- The logic 'Gl', part 4: regions that draw their order: one walk along a plan serves every order. -/
import Derived.Test.YtlhibbjnhdcffaaGl3
import Derived.Still
namespace Go.Gl
open Go

/-- What an operation of a plan is: stable; it makes and freezes; it makes one block; anything; stable on what is kept; anything that keeps it. -/
inductive Kd where
  | s | g | a | x | r | y
  deriving DecidableEq, Repr

section
variable (P : Program) (ops : Array Oper) (Q : Exit → Act → World → Prop)

-- the same facts as OS, OG, OA, OX, said of one act
def aS (o : Oper) (a : Act) (I : Gh) (L : List Seg) (v : Value) : Prop :=
  ∀ J M w, I.le J → Incl L M → St J M w → Yield P o a w fun u w' => u = v ∧ St J M w'
def aG (o : Oper) (a : Act) (I : Gh) (L : List Seg) (post : Gh → Value → Prop) : Prop :=
  ∀ J M w, I.le J → Incl L M → St J M w → Yield P o a w fun u w' => ∃ K, J.le K ∧ St K M w' ∧ post K u
def aA (o : Oper) (a : Act) (mk : Nat → Value) (obj : Obj) : Prop :=
  ∀ w, (execOp a.eval o).run P w = .ok (.value (mk w.heap.size)) { w with heap := w.heap.push obj }
def aX (o : Oper) (a : Act) (I : Gh) (L : List Seg) (post : Gh → List Seg → Value → Prop) : Prop :=
  ∀ J E w, I.le J → St J (E ++ L) w → Yield P o a w fun u w' => ∃ K M, J.le K ∧ St K (E ++ M) w' ∧ post K M u

/-- One operation of its kind, and what is to hold behind it. -/
def Stp (keep : List Seg) (k : Kd) (o : Oper) (a : Act) (I : Gh) (L : List Seg) (C : Act → Gh → List Seg → Prop) : Prop :=
  (Region.wanted o (yielded ops a.tmps) = false → C (a.put o.dst undef) I L) ∧
  (Region.wanted o (yielded ops a.tmps) = true →
    match k with
    | .s => ∃ v, aS P o a I L v ∧ C (a.put o.dst v) I L
    | .g => ∃ post, aG P o a I L post ∧ ∀ K u, I.le K → post K u → C (a.put o.dst u) K L
    | .a => ∃ mk obj, aA P o a mk obj ∧ ∀ b, C (a.put o.dst (mk b)) I ([(b, obj)] :: L)
    | .x => ∃ post, aX P o a I L post ∧ ∀ K M u, I.le K → post K M u → C (a.put o.dst u) K M
    | .r => ∃ v, aS P o a I keep v ∧ Incl keep L ∧ C (a.put o.dst v) I L
    | .y => ∃ post, aX P o a I L post ∧ (∀ K M u, post K M u → Incl keep M) ∧ ∀ K M u, I.le K → post K M u → C (a.put o.dst u) K M)

/-- A strategy: whatever comes up next, of its kind. 'kd' tells each operation's kind. -/
def Jd (keep : List Seg) (kd : Nat → Kd) : Nat → Array Bool → Act → Gh → List Seg → Prop
  | 0, listed, a, I, L => (∃ w, St I L w) → Region.ready .any ops listed = [] ∧ ∀ w, St I L w → Q .normal a w
  | f + 1, listed, a, I, L => (∃ w, St I L w) →
    Region.ready .any ops listed ≠ [] ∧
    ∀ j ∈ Region.ready .any ops listed, ∀ o, ops[j]? = some o → Stp P ops keep (kd j) o a I L fun a' I' L' => Jd keep kd f (listed.setIfInBounds j true) a' I' L'

/-- Along a plan. -/
def Pl (keep : List Seg) (kd : Nat → Kd) : List Nat → Act → Gh → List Seg → Prop
  | [], a, I, L => ∀ w, St I L w → Q .normal a w
  | j :: r, a, I, L => ∀ o, ops[j]? = some o → Stp P ops keep (kd j) o a I L fun a' I' L' => Pl keep kd r a' I' L'
end

section
variable {P : Program} {ops : Array Oper} {Q : Exit → Act → World → Prop} {keep : List Seg} {kd : Nat → Kd}

theorem Jd_sound : ∀ (f : Nat) (listed : Array Bool) (a : Act) (I : Gh) (L : List Seg) (w : World), St I L w → Jd P ops Q keep kd f listed a I L → wpAny P .any ops Q f listed a w
  | 0, _, _, _, _, w, hw, h => ⟨(h ⟨w, hw⟩).1, (h ⟨w, hw⟩).2 w hw⟩
  | f + 1, listed, a, I, L, w, hw, h => by
    have h := h ⟨w, hw⟩
    refine ⟨fun h0 => absurd h0 h.1, fun j hj => ?_⟩
    obtain ⟨_, o, ho, _⟩ := mem_ready.1 hj
    obtain ⟨h1, h2⟩ := h.2 j hj o ho
    unfold wpOp
    simp only [ho]
    split
    · rename_i hwant
      have h3 := h2 hwant
      refine .inl ?_
      cases hk : kd j <;> rw [hk] at h3 <;> simp only at h3
      · obtain ⟨v, hs, hJ⟩ := h3
        refine (hs I L w (.refl I) (.refl L) hw).wp fun u w' ⟨hu, hw'⟩ => ?_
        subst hu
        exact Jd_sound f _ _ I L w' hw' hJ
      · obtain ⟨post, hs, hJ⟩ := h3
        exact (hs I L w (.refl I) (.refl L) hw).wp fun u w' ⟨K, hK, hw', hp⟩ => Jd_sound f _ _ K L w' hw' (hJ K u hK hp)
      · obtain ⟨mk, obj, hs, hJ⟩ := h3
        have : Yield P o a w fun u w' => u = mk w.heap.size ∧ w' = { w with heap := w.heap.push obj } := by unfold Yield; rw [hs w]; exact ⟨rfl, rfl⟩
        refine this.wp fun u w' ⟨hu, hw'⟩ => ?_
        subst hu; subst hw'
        exact Jd_sound f _ _ I _ _ (hw.alloc obj) (hJ _)
      · obtain ⟨post, hs, hJ⟩ := h3
        exact (hs I [] w (.refl I) hw).wp fun u w' ⟨K, M, hK, hw', hp⟩ => Jd_sound f _ _ K M w' hw' (hJ K M u hK hp)
      · obtain ⟨v, hs, hin, hJ⟩ := h3
        refine (hs I L w (.refl I) hin hw).wp fun u w' ⟨hu, hw'⟩ => ?_
        subst hu
        exact Jd_sound f _ _ I L w' hw' hJ
      · obtain ⟨post, hs, _, hJ⟩ := h3
        exact (hs I [] w (.refl I) hw).wp fun u w' ⟨K, M, hK, hw', hp⟩ => Jd_sound f _ _ K M w' hw' (hJ K M u hK hp)
    · rename_i hwant
      exact Jd_sound f _ _ I L w hw (h1 (by simpa using hwant))

theorem Yield.inst {o : Oper} {a : Act} {w : World} {R : Value → World → Prop} (h : Yield P o a w R) : ∃ u w', R u w' := by
  unfold Yield at h
  generalize (execOp a.eval o).run P w = r at h
  cases r with
  | ok m w' =>
    cases m <;> simp only [yU] at h
    · exact ⟨_, _, h⟩
    · exact ⟨_, _, h⟩
    · obtain ⟨e, w', fr, ⟨v, _, hv⟩, _⟩ := h []
      exact ⟨v, w', hv⟩
  | halt x w' => simp [yU] at h

theorem aA.uniq {o : Oper} {a : Act} {mk mk' : Nat → Value} {obj obj' : Obj} (h : aA P o a mk obj) (h' : aA P o a mk' obj') (w : World) : obj = obj' ∧ mk = mk' := by
  have key : ∀ w : World, (Result.ok (Next.value (mk w.heap.size)) { w with heap := w.heap.push obj } : Result Next) = .ok (.value (mk' w.heap.size)) { w with heap := w.heap.push obj' } :=
    fun w => (h w).symm.trans (h' w)
  refine ⟨?_, funext fun k => ?_⟩
  · have := key w
    simp only [Result.ok.injEq, World.mk.injEq, and_true] at this
    have h2 := this.2
    have h3 := congrArg Array.back? h2
    simpa using h3
  · have := key { w with heap := Array.replicate k obj }
    simp only [Result.ok.injEq, Next.value.injEq, Array.size_replicate] at this
    exact this.1

theorem aS.mono {o : Oper} {a : Act} {I J : Gh} {L M : List Seg} {v : Value} (h : aS P o a I L v) (hI : I.le J) (hL : Incl L M) : aS P o a J M v :=
  fun K N w hK hN hw => h K N w (hI.trans hK) (hL.trans hN) hw
theorem aG.mono {o : Oper} {a : Act} {I J : Gh} {L M : List Seg} {post : Gh → Value → Prop} (h : aG P o a I L post) (hI : I.le J) (hL : Incl L M) : aG P o a J M post :=
  fun K N w hK hN hw => h K N w (hI.trans hK) (hL.trans hN) hw

-- another act that the operation cannot tell
theorem aS.congr {o : Oper} {a a' : Act} {I : Gh} {L : List Seg} {v : Value} (h : aS P o a I L v) (he : execOp a'.eval o = execOp a.eval o) : aS P o a' I L v :=
  fun J M w hJ hM hw => (h J M w hJ hM hw).congr he
theorem aG.congr {o : Oper} {a a' : Act} {I : Gh} {L : List Seg} {post : Gh → Value → Prop} (h : aG P o a I L post) (he : execOp a'.eval o = execOp a.eval o) : aG P o a' I L post :=
  fun J M w hJ hM hw => (h J M w hJ hM hw).congr he
theorem aA.congr {o : Oper} {a a' : Act} {mk : Nat → Value} {obj : Obj} (h : aA P o a mk obj) (he : execOp a'.eval o = execOp a.eval o) : aA P o a' mk obj :=
  fun w => by rw [he]; exact h w
theorem aX.congr {o : Oper} {a a' : Act} {I : Gh} {L : List Seg} {post : Gh → List Seg → Value → Prop} (h : aX P o a I L post) (he : execOp a'.eval o = execOp a.eval o) : aX P o a' I L post :=
  fun J E w hJ hw => (h J E w hJ hw).congr he

/-- Which may be taken ahead of which, though it need not be. -/
def ahead : Kd → Kd → Bool
  | .r, .x => false
  | .r, _ => true
  | .s, .x => false
  | .s, .y => false
  | .s, _ => true
  | _, .a => true
  | _, _ => false

/-- Two operations that cannot tell each other: taken in the one order, taken in the other. -/
theorem Stp_comm {oi oj : Oper} {ki kj : Kd} {a : Act} {I : Gh} {L : List Seg} {C : Act → Gh → List Seg → Prop} (hk : ahead kj ki = true) (hap : oj.apart ops oi = true)
    (hsi : ∀ cs b, oi.op ≠ .select cs b) (hsj : ∀ cs b, oj.op ≠ .select cs b) (hC : ∀ a I L, ((∃ w, St I L w) → C a I L) → C a I L)
    (hperm : ∀ a I L L', L.Perm L' → C a I L → C a I L') (w0 : World) (hw0 : St I L w0)
    (H : Stp P ops keep kj oj a I L fun a1 I1 L1 => (∃ w, St I1 L1 w) → Stp P ops keep ki oi a1 I1 L1 C) :
    Stp P ops keep ki oi a I L fun a' I' L' => Stp P ops keep kj oj a' I' L' C := by
  obtain ⟨h1, h2, h3⟩ := Oper.apart_spec hap
  have xi : ∀ (a : Act) v, execOp (a.put oj.dst v).eval oi = execOp a.eval oi := fun a v => execOp_put oi hsi a oj.dst v h1
  have xj : ∀ (a : Act) v, execOp (a.put oi.dst v).eval oj = execOp a.eval oj := fun a v => execOp_put oj hsj a oi.dst v h3
  have wi : ∀ (a : Act) v, Region.wanted oi (yielded ops (a.put oj.dst v).tmps) = Region.wanted oi (yielded ops a.tmps) := fun a v => wanted_put oi a oj.dst v h1
  have wj : ∀ (a : Act) v, Region.wanted oj (yielded ops (a.put oi.dst v).tmps) = Region.wanted oj (yielded ops a.tmps) := fun a v => wanted_put oj a oi.dst v h3
  have pc : ∀ v u, (a.put oj.dst v).put oi.dst u = (a.put oi.dst u).put oj.dst v := fun v u => Act.put_comm a v u h2
  obtain ⟨H1, H2⟩ := H
  cases hwj : Region.wanted oj (yielded ops a.tmps) with
  | false =>
    -- it is not wanted: it leaves nothing
    have S := H1 hwj ⟨w0, hw0⟩
    unfold Stp at S
    rw [wi] at S
    refine ⟨fun hwi => ?_, fun hwi => ?_⟩
    · refine ⟨fun _ => ?_, fun hc => by rw [wj, hwj] at hc; cases hc⟩
      rw [← pc]; exact S.1 hwi
    · have S2 := S.2 hwi
      cases ki <;> simp only at S2 ⊢
      · obtain ⟨v, hs, hc⟩ := S2
        refine ⟨v, hs.congr (xi a _).symm, fun _ => ?_, fun hc => by rw [wj, hwj] at hc; cases hc⟩
        rw [← pc]; exact hc
      · obtain ⟨post, hs, hc⟩ := S2
        refine ⟨post, hs.congr (xi a _).symm, fun K u hK hp => ⟨fun _ => ?_, fun hc => by rw [wj, hwj] at hc; cases hc⟩⟩
        rw [← pc]; exact hc K u hK hp
      · obtain ⟨mk, obj, hs, hc⟩ := S2
        refine ⟨mk, obj, hs.congr (xi a _).symm, fun b => ⟨fun _ => ?_, fun hc => by rw [wj, hwj] at hc; cases hc⟩⟩
        rw [← pc]; exact hc b
      · obtain ⟨post, hs, hc⟩ := S2
        refine ⟨post, hs.congr (xi a _).symm, fun K M u hK hp => ⟨fun _ => ?_, fun hc => by rw [wj, hwj] at hc; cases hc⟩⟩
        rw [← pc]; exact hc K M u hK hp
      · obtain ⟨v, hs, hin, hc⟩ := S2
        refine ⟨v, hs.congr (xi a _).symm, hin, fun _ => ?_, fun hc => by rw [wj, hwj] at hc; cases hc⟩
        rw [← pc]; exact hc
      · obtain ⟨post, hs, hke, hc⟩ := S2
        refine ⟨post, hs.congr (xi a _).symm, hke, fun K M u hK hp => ⟨fun _ => ?_, fun hc => by rw [wj, hwj] at hc; cases hc⟩⟩
        rw [← pc]; exact hc K M u hK hp
  | true =>
    have H3 := H2 hwj
    have wj' : ∀ u, Region.wanted oj (yielded ops (a.put oi.dst u).tmps) = true := fun u => by rw [wj, hwj]
    have no : ∀ {p : Prop} u, Region.wanted oj (yielded ops (a.put oi.dst u).tmps) = false → p := fun u hc => by rw [wj'] at hc; cases hc
    cases kj <;> simp only at H3
    · -- stable
      obtain ⟨v, hs, S⟩ := H3
      have S := S ⟨w0, hw0⟩
      unfold Stp at S
      rw [wi] at S
      refine ⟨fun hwi => ⟨no _, fun _ => ⟨v, hs.congr (xj a _), by rw [← pc]; exact S.1 hwi⟩⟩, fun hwi => ?_⟩
      have S2 := S.2 hwi
      cases ki <;> simp only at S2 ⊢
      · obtain ⟨u, hs2, hc⟩ := S2
        exact ⟨u, hs2.congr (xi a _).symm, no _, fun _ => ⟨v, hs.congr (xj a _), by rw [← pc]; exact hc⟩⟩
      · obtain ⟨post, hs2, hc⟩ := S2
        exact ⟨post, hs2.congr (xi a _).symm, fun K u hK hp => ⟨no _, fun _ => ⟨v, (hs.mono hK (.refl L)).congr (xj a _), by rw [← pc]; exact hc K u hK hp⟩⟩⟩
      · obtain ⟨mk, obj, hs2, hc⟩ := S2
        exact ⟨mk, obj, hs2.congr (xi a _).symm, fun b => ⟨no _, fun _ => ⟨v, (hs.mono (.refl I) ((Incl.refl L).skip _)).congr (xj a _), by rw [← pc]; exact hc b⟩⟩⟩
      · cases hk
      · obtain ⟨u, hs2, hin, hc⟩ := S2
        exact ⟨u, hs2.congr (xi a _).symm, hin, no _, fun _ => ⟨v, hs.congr (xj a _), by rw [← pc]; exact hc⟩⟩
      · cases hk
    · -- it makes and freezes; the other makes a block
      obtain ⟨post, hs, S⟩ := H3
      cases ki <;> first | cases hk | skip
      obtain ⟨u0, w1, K0, hK0, hw1, hp0⟩ := (hs I L w0 (.refl I) (.refl L) hw0).inst
      have S0 := S K0 u0 hK0 hp0 ⟨w1, hw1⟩
      unfold Stp at S0
      rw [wi] at S0
      refine ⟨fun hwi => ⟨no _, fun _ => ⟨post, hs.congr (xj a _), fun K u hK hp => hC _ _ _ fun hw => ?_⟩⟩, fun hwi => ?_⟩
      · have := S K u hK hp hw
        unfold Stp at this
        rw [wi] at this
        rw [← pc]; exact this.1 hwi
      · obtain ⟨mk, obj, hs2, _⟩ := S0.2 hwi
        refine ⟨mk, obj, hs2.congr (xi a _).symm, fun b => ⟨no _, fun _ => ⟨post, (hs.mono (.refl I) ((Incl.refl L).skip _)).congr (xj a _), fun K u hK hp => hC _ _ _ fun ⟨w, hw⟩ => ?_⟩⟩⟩
        have := S K u hK hp ⟨w, hw.drop⟩
        unfold Stp at this
        rw [wi] at this
        obtain ⟨mk', obj', hs3, hc⟩ := this.2 hwi
        obtain ⟨rfl, rfl⟩ := aA.uniq (hs3.congr (xi a _).symm) (hs2.congr (xi a _).symm) w
        rw [← pc]; exact hc b
    · -- both make a block
      obtain ⟨mkj, objj, hs, S⟩ := H3
      cases ki <;> first | cases hk | skip
      have S0 := S w0.heap.size ⟨_, hw0.alloc objj⟩
      unfold Stp at S0
      rw [wi] at S0
      refine ⟨fun hwi => ⟨no _, fun _ => ⟨mkj, objj, hs.congr (xj a _), fun b => hC _ _ _ fun hw => ?_⟩⟩, fun hwi => ?_⟩
      · have := S b hw
        unfold Stp at this
        rw [wi] at this
        rw [← pc]; exact this.1 hwi
      · obtain ⟨mk, obj, hs2, _⟩ := S0.2 hwi
        refine ⟨mk, obj, hs2.congr (xi a _).symm, fun b => ⟨no _, fun _ => ⟨mkj, objj, hs.congr (xj a _), fun bj => hC _ _ _ fun ⟨w, hw⟩ => ?_⟩⟩⟩
        have hw' : St I ([(b, obj)] :: [(bj, objj)] :: L) w := hw.perm (List.Perm.swap _ _ _)
        have := S bj ⟨w, hw'.drop⟩
        unfold Stp at this
        rw [wi] at this
        obtain ⟨mk', obj', hs3, hc⟩ := this.2 hwi
        obtain ⟨rfl, rfl⟩ := aA.uniq (hs3.congr (xi a _).symm) (hs2.congr (xi a _).symm) w
        rw [← pc]; exact hperm _ _ _ _ (List.Perm.swap _ _ _) (hc b)
    · -- anything; the other makes a block
      obtain ⟨post, hs, S⟩ := H3
      cases ki <;> first | cases hk | skip
      obtain ⟨u0, w1, K0, M0, hK0, hw1, hp0⟩ := (hs I [] w0 (.refl I) hw0).inst
      have S0 := S K0 M0 u0 hK0 hp0 ⟨w1, hw1⟩
      unfold Stp at S0
      rw [wi] at S0
      refine ⟨fun hwi => ⟨no _, fun _ => ⟨post, hs.congr (xj a _), fun K M u hK hp => hC _ _ _ fun hw => ?_⟩⟩, fun hwi => ?_⟩
      · have := S K M u hK hp hw
        unfold Stp at this
        rw [wi] at this
        rw [← pc]; exact this.1 hwi
      · obtain ⟨mk, obj, hs2, _⟩ := S0.2 hwi
        refine ⟨mk, obj, hs2.congr (xi a _).symm, fun b => ⟨no _, fun _ => ⟨fun K M u => ∃ M', M = [(b, obj)] :: M' ∧ post K M' u, ?_, ?_⟩⟩⟩
        · refine aX.congr ?_ (xj a _)
          intro J E w hJ hw
          refine (hs J (E ++ [[(b, obj)]]) w hJ (by simpa using hw)).mono fun u w' ⟨K, M, hK, hw', hp⟩ => ?_
          exact ⟨K, [(b, obj)] :: M, hK, by simpa using hw', M, rfl, hp⟩
        · rintro K M u hK ⟨M', rfl, hp⟩
          refine hC _ _ _ fun ⟨w, hw⟩ => ?_
          have := S K M' u hK hp ⟨w, hw.drop⟩
          unfold Stp at this
          rw [wi] at this
          obtain ⟨mk', obj', hs3, hc⟩ := this.2 hwi
          obtain ⟨rfl, rfl⟩ := aA.uniq (hs3.congr (xi a _).symm) (hs2.congr (xi a _).symm) w
          rw [← pc]; exact hc b
    · -- stable on what is kept
      obtain ⟨v, hs, hin, S⟩ := H3
      have S := S ⟨w0, hw0⟩
      unfold Stp at S
      rw [wi] at S
      refine ⟨fun hwi => ⟨no _, fun _ => ⟨v, hs.congr (xj a _), hin, by rw [← pc]; exact S.1 hwi⟩⟩, fun hwi => ?_⟩
      have S2 := S.2 hwi
      cases ki <;> simp only at S2 ⊢
      · obtain ⟨u, hs2, hc⟩ := S2
        exact ⟨u, hs2.congr (xi a _).symm, no _, fun _ => ⟨v, hs.congr (xj a _), hin, by rw [← pc]; exact hc⟩⟩
      · obtain ⟨post, hs2, hc⟩ := S2
        exact ⟨post, hs2.congr (xi a _).symm, fun K u hK hp => ⟨no _, fun _ => ⟨v, (hs.mono hK (.refl keep)).congr (xj a _), hin, by rw [← pc]; exact hc K u hK hp⟩⟩⟩
      · obtain ⟨mk, obj, hs2, hc⟩ := S2
        exact ⟨mk, obj, hs2.congr (xi a _).symm, fun b => ⟨no _, fun _ => ⟨v, hs.congr (xj a _), hin.skip _, by rw [← pc]; exact hc b⟩⟩⟩
      · cases hk
      · obtain ⟨u, hs2, hin2, hc⟩ := S2
        exact ⟨u, hs2.congr (xi a _).symm, hin2, no _, fun _ => ⟨v, hs.congr (xj a _), hin, by rw [← pc]; exact hc⟩⟩
      · obtain ⟨post, hs2, hke, hc⟩ := S2
        exact ⟨post, hs2.congr (xi a _).symm, hke, fun K M u hK hp => ⟨no _, fun _ => ⟨v, (hs.mono hK (.refl keep)).congr (xj a _), hke K M u hp, by rw [← pc]; exact hc K M u hK hp⟩⟩⟩
    · -- anything that keeps; the other makes a block
      obtain ⟨post, hs, hke, S⟩ := H3
      cases ki <;> first | cases hk | skip
      obtain ⟨u0, w1, K0, M0, hK0, hw1, hp0⟩ := (hs I [] w0 (.refl I) hw0).inst
      have S0 := S K0 M0 u0 hK0 hp0 ⟨w1, hw1⟩
      unfold Stp at S0
      rw [wi] at S0
      refine ⟨fun hwi => ⟨no _, fun _ => ⟨post, hs.congr (xj a _), hke, fun K M u hK hp => hC _ _ _ fun hw => ?_⟩⟩, fun hwi => ?_⟩
      · have := S K M u hK hp hw
        unfold Stp at this
        rw [wi] at this
        rw [← pc]; exact this.1 hwi
      · obtain ⟨mk, obj, hs2, _⟩ := S0.2 hwi
        refine ⟨mk, obj, hs2.congr (xi a _).symm, fun b => ⟨no _, fun _ => ⟨fun K M u => ∃ M', M = [(b, obj)] :: M' ∧ post K M' u, ?_, ?_, ?_⟩⟩⟩
        · refine aX.congr ?_ (xj a _)
          intro J E w hJ hw
          refine (hs J (E ++ [[(b, obj)]]) w hJ (by simpa using hw)).mono fun u w' ⟨K, M, hK, hw', hp⟩ => ?_
          exact ⟨K, [(b, obj)] :: M, hK, by simpa using hw', M, rfl, hp⟩
        · rintro K M u ⟨M', rfl, hp⟩
          exact (hke K M' u hp).skip _
        · rintro K M u hK ⟨M', rfl, hp⟩
          refine hC _ _ _ fun ⟨w, hw⟩ => ?_
          have := S K M' u hK hp ⟨w, hw.drop⟩
          unfold Stp at this
          rw [wi] at this
          obtain ⟨mk', obj', hs3, hc⟩ := this.2 hwi
          obtain ⟨rfl, rfl⟩ := aA.uniq (hs3.congr (xi a _).symm) (hs2.congr (xi a _).symm) w
          rw [← pc]; exact hc b

theorem Stp_mono {o : Oper} {k : Kd} {a : Act} {I : Gh} {L : List Seg} {C C' : Act → Gh → List Seg → Prop} (h : ∀ a I L, C a I L → C' a I L) (hs : Stp P ops keep k o a I L C) : Stp P ops keep k o a I L C' := by
  refine ⟨fun hw => h _ _ _ (hs.1 hw), fun hw => ?_⟩
  have := hs.2 hw
  cases k <;> simp only at this ⊢
  · obtain ⟨v, h1, h2⟩ := this; exact ⟨v, h1, h _ _ _ h2⟩
  · obtain ⟨v, h1, h2⟩ := this; exact ⟨v, h1, fun K u hK hp => h _ _ _ (h2 K u hK hp)⟩
  · obtain ⟨v, ob, h1, h2⟩ := this; exact ⟨v, ob, h1, fun b => h _ _ _ (h2 b)⟩
  · obtain ⟨v, h1, h2⟩ := this; exact ⟨v, h1, fun K M u hK hp => h _ _ _ (h2 K M u hK hp)⟩
  · obtain ⟨v, h1, hin, h2⟩ := this; exact ⟨v, h1, hin, h _ _ _ h2⟩
  · obtain ⟨v, h1, hke, h2⟩ := this; exact ⟨v, h1, hke, fun K M u hK hp => h _ _ _ (h2 K M u hK hp)⟩

theorem incl_perm {L L' M : List Seg} (h : L.Perm L') (hM : Incl M L) : Incl M L' := by
  obtain ⟨E, hE⟩ := hM
  exact ⟨E, hE.trans h.flatten⟩
theorem perm_incl {L L' M : List Seg} (h : L.Perm L') (hM : Incl L' M) : Incl L M := by
  obtain ⟨E, hE⟩ := hM
  exact ⟨E, (List.Perm.append_left E h.flatten).trans hE⟩

theorem Stp_perm {o : Oper} {k : Kd} {a : Act} {I : Gh} {L L' : List Seg} (hp : L.Perm L') {C : Act → Gh → List Seg → Prop} (hC : ∀ a I L L', L.Perm L' → C a I L → C a I L') (hs : Stp P ops keep k o a I L C) : Stp P ops keep k o a I L' C := by
  refine ⟨fun hw => hC _ _ _ _ hp (hs.1 hw), fun hw => ?_⟩
  have := hs.2 hw
  cases k <;> simp only at this ⊢
  · obtain ⟨v, h1, h2⟩ := this; exact ⟨v, fun J M w hJ hM hw => h1 J M w hJ (perm_incl hp hM) hw, hC _ _ _ _ hp h2⟩
  · obtain ⟨v, h1, h2⟩ := this; exact ⟨v, fun J M w hJ hM hw => h1 J M w hJ (perm_incl hp hM) hw, fun K u hK hq => hC _ _ _ _ hp (h2 K u hK hq)⟩
  · obtain ⟨v, ob, h1, h2⟩ := this; exact ⟨v, ob, h1, fun b => hC _ _ _ _ (hp.cons _) (h2 b)⟩
  · obtain ⟨v, h1, h2⟩ := this; exact ⟨v, fun J E w hJ hw => h1 J E w hJ (hw.perm (List.Perm.append_left E hp)), h2⟩
  · obtain ⟨v, h1, hin, h2⟩ := this; exact ⟨v, h1, incl_perm hp hin, hC _ _ _ _ hp h2⟩
  · obtain ⟨v, h1, hke, h2⟩ := this; exact ⟨v, fun J E w hJ hw => h1 J E w hJ (hw.perm (List.Perm.append_left E hp)), hke, h2⟩

theorem Jd_perm : ∀ (f : Nat) (listed : Array Bool) (a : Act) (I : Gh) (L L' : List Seg), L.Perm L' → Jd P ops Q keep kd f listed a I L → Jd P ops Q keep kd f listed a I L'
  | 0, _, _, _, _, _, hp, h => fun ⟨w, hw⟩ => ⟨(h ⟨w, hw.perm hp⟩).1, fun w hw => (h ⟨w, hw.perm hp⟩).2 w (hw.perm hp)⟩
  | f + 1, _, _, _, _, _, hp, h => fun ⟨w, hw⟩ =>
    ⟨(h ⟨w, hw.perm hp⟩).1, fun j hj o ho => Stp_perm hp (fun a I L L' hp h => Jd_perm f _ a I L L' hp h) ((h ⟨w, hw.perm hp⟩).2 j hj o ho)⟩

theorem Jd_cond {f : Nat} {listed : Array Bool} {a : Act} {I : Gh} {L : List Seg} (h : (∃ w, St I L w) → Jd P ops Q keep kd f listed a I L) : Jd P ops Q keep kd f listed a I L := by
  cases f with
  | zero => exact fun hw => h hw hw
  | succ f => exact fun hw => h hw hw

/-- 'i' waits for 'j', over some steps. -/
def waits (ops : Array Oper) : Nat → Nat → Nat → Bool
  | 0, _, _ => false
  | f + 1, i, j => match ops[i]? with
    | some o => o.after.any fun e => Region.binds .any e && (Nat.beq e.on j || waits ops f e.on j)
    | none => false

def Closed (ops : Array Oper) (listed : Array Bool) : Prop :=
  ∀ i o, ops[i]? = some o → listed.getD i false = true → ∀ e ∈ o.after, Region.binds .any e = true → listed.getD e.on false = true

theorem waits_listed {listed : Array Bool} (hc : Closed ops listed) {j : Nat} (hj : listed.getD j false = false) : ∀ (f i : Nat), listed.getD i false = true → waits ops f i j = false
  | 0, _, _ => rfl
  | f + 1, i, hi => by
    unfold waits
    split
    · rename_i o ho
      rw [Bool.eq_false_iff]
      intro h
      obtain ⟨e, he, hb⟩ := Array.any_eq_true'.1 h
      simp only [Bool.and_eq_true, Bool.or_eq_true] at hb
      have h1 := hc i o ho hi e he hb.1
      rcases hb.2 with h2 | h2
      · have := Nat.eq_of_beq_eq_true h2
        rw [this, hj] at h1; cases h1
      · rw [waits_listed hc hj f e.on h1] at h2; cases h2
    · rfl
theorem waits_ready {listed : Array Bool} (hc : Closed ops listed) {j : Nat} (hj : listed.getD j false = false) {f i : Nat} (hi : i ∈ Region.ready .any ops listed) : waits ops f i j = false := by
  cases f with
  | zero => rfl
  | succ f =>
    obtain ⟨_, o, ho, hall⟩ := mem_ready.1 hi
    unfold waits
    rw [ho]
    simp only
    rw [Bool.eq_false_iff]
    intro h
    obtain ⟨e, he, hb⟩ := Array.any_eq_true'.1 h
    simp only [Bool.and_eq_true, Bool.or_eq_true] at hb
    have h1 := hall e he hb.1
    rcases hb.2 with h2 | h2
    · have := Nat.eq_of_beq_eq_true h2
      rw [this, hj] at h1; cases h1
    · rw [waits_listed hc hj f e.on h1] at h2; cases h2

theorem Closed.set {listed : Array Bool} (hc : Closed ops listed) {i : Nat} (hi : i ∈ Region.ready .any ops listed) : Closed ops (listed.setIfInBounds i true) := by
  intro k o ho hk e he hb
  obtain ⟨_, oi, hoi, hall⟩ := mem_ready.1 hi
  by_cases hki : i = k
  · subst hki
    have : o = oi := Option.some.inj (ho.symm.trans hoi)
    subst this
    exact getD_set_true (hall e he hb)
  · rw [getD_set_ne false hki] at hk
    exact getD_set_true (hc k o ho hk e he hb)

theorem getD_tf {listed : Array Bool} {i : Nat} (h : listed.getD i true = false) : listed.getD i false = false := by
  rcases Nat.lt_or_ge i listed.size with h' | h'
  · simp [h'] at h ⊢; exact h
  · simp [Array.getElem?_eq_none h'] at h

/-- An operation that may be taken first. -/
theorem Jd_first (hsel : ∀ (j : Nat) (o : Oper) cs b, ops[j]? = some o → o.op ≠ .select cs b) (F : Nat) {j : Nat} {oj : Oper} (hj : ops[j]? = some oj) :
    ∀ (f : Nat) (listed : Array Bool) (a : Act) (I : Gh) (L : List Seg), Closed ops listed → j ∈ Region.ready .any ops listed →
      (∀ i oi, ops[i]? = some oi → i ≠ j → listed.getD i true = false → waits ops F i j = true ∨ (ahead (kd j) (kd i) = true ∧ oj.apart ops oi = true)) →
      Stp P ops keep (kd j) oj a I L (fun a' I' L' => Jd P ops Q keep kd f (listed.setIfInBounds j true) a' I' L') → Jd P ops Q keep kd (f + 1) listed a I L := by
  intro f
  induction f with
  | zero =>
    intro listed a I L hc hr hfree H ⟨w0, hw0⟩
    refine ⟨fun h => (by rw [h] at hr; cases hr), fun i hi oi hoi => ?_⟩
    by_cases hij : i = j
    · subst hij
      have : oi = oj := Option.some.inj (hoi.symm.trans hj)
      subst this
      exact H
    · have hrm := ready_mono hi hij
      exfalso
      have key : ∀ a' I' L' w', St I' L' w' → Jd P ops Q keep kd 0 (listed.setIfInBounds j true) a' I' L' → False := fun a' I' L' w' hw' h => by
        rw [(h ⟨w', hw'⟩).1] at hrm; cases hrm
      cases hwj : Region.wanted oj (yielded ops a.tmps) with
      | false => exact key _ _ _ _ hw0 (H.1 hwj)
      | true =>
        have H3 := H.2 hwj
        cases hk : kd j <;> rw [hk] at H3 <;> simp only at H3
        · obtain ⟨v, _, h2⟩ := H3; exact key _ _ _ _ hw0 h2
        · obtain ⟨post, h1, h2⟩ := H3
          obtain ⟨u, w1, K, hK, hw1, hp⟩ := (h1 I L w0 (.refl I) (.refl L) hw0).inst
          exact key _ _ _ _ hw1 (h2 K u hK hp)
        · obtain ⟨mk, obj, h1, h2⟩ := H3; exact key _ _ _ _ (hw0.alloc obj) (h2 _)
        · obtain ⟨post, h1, h2⟩ := H3
          obtain ⟨u, w1, K, M, hK, hw1, hp⟩ := (h1 I [] w0 (.refl I) hw0).inst
          exact key _ _ _ _ hw1 (h2 K M u hK hp)
        · obtain ⟨v, _, _, h2⟩ := H3; exact key _ _ _ _ hw0 h2
        · obtain ⟨post, h1, _, h2⟩ := H3
          obtain ⟨u, w1, K, M, hK, hw1, hp⟩ := (h1 I [] w0 (.refl I) hw0).inst
          exact key _ _ _ _ hw1 (h2 K M u hK hp)
  | succ f ih =>
    intro listed a I L hc hr hfree H ⟨w0, hw0⟩
    refine ⟨fun h => (by rw [h] at hr; cases hr), fun i hi oi hoi => ?_⟩
    by_cases hij : i = j
    · subst hij
      have : oi = oj := Option.some.inj (hoi.symm.trans hj)
      subst this
      exact H
    · have hrm := ready_mono hi hij
      have hju := (mem_ready.1 hr).1
      have hiu := (mem_ready.1 hi).1
      rcases hfree i oi hoi hij hiu with hwt | ⟨hah, hap⟩
      · rw [waits_ready hc (getD_tf hju) hi] at hwt; cases hwt
      · have H' : Stp P ops keep (kd j) oj a I L fun a1 I1 L1 => (∃ w, St I1 L1 w) → Stp P ops keep (kd i) oi a1 I1 L1 fun a2 I2 L2 => Jd P ops Q keep kd f ((listed.setIfInBounds i true).setIfInBounds j true) a2 I2 L2 :=
          Stp_mono (fun a1 I1 L1 h hw => by
            have := (h hw).2 i hrm oi hoi
            rw [Array.setIfInBounds_comm _ _ hij]
            exact this) H
        have := Stp_comm hah hap (fun cs b => hsel i oi cs b hoi) (fun cs b => hsel j oj cs b hj) (fun a I L h => Jd_cond h) (fun a I L L' hp h => Jd_perm f _ a I L L' hp h) w0 hw0 H'
        refine Stp_mono (fun a' I' L' h => ih _ a' I' L' (hc.set hi) (ready_mono hr (Ne.symm hij)) ?_ h) this
        intro k ok hk hkj hun
        refine hfree k ok hk hkj ?_
        by_cases hik : i = k
        · subst hik; exact hiu
        · rw [getD_set_ne true hik] at hun; exact hun

/-- The plan fits: each may come when it comes, and what is left either waits for it or may as well come later; nothing is forgotten. -/
def planB (ops : Array Oper) (kd : Nat → Kd) (F : Nat) : List Nat → Array Bool → Bool
  | [], listed => (Region.ready .any ops listed).isEmpty
  | j :: r, listed =>
    (Region.ready .any ops listed).any (Nat.beq j) &&
    (List.range ops.size).all (fun i => Nat.beq i j || listed.getD i true || waits ops F i j || (ahead (kd j) (kd i) && (match ops[i]?, ops[j]? with | some oi, some oj => oj.apart ops oi | _, _ => false))) &&
    planB ops kd F r (listed.setIfInBounds j true)

theorem Pl_Jd (hsel : ∀ (j : Nat) (o : Oper) cs b, ops[j]? = some o → o.op ≠ .select cs b) (F : Nat) : ∀ (pl : List Nat) (listed : Array Bool) (a : Act) (I : Gh) (L : List Seg), Closed ops listed →
    planB ops kd F pl listed = true → Pl P ops Q keep kd pl a I L → Jd P ops Q keep kd pl.length listed a I L
  | [], listed, a, I, L, _, hB, h => fun _ => ⟨by simpa [planB] using hB, h⟩
  | j :: r, listed, a, I, L, hc, hB, h => by
    simp only [planB, Bool.and_eq_true] at hB
    obtain ⟨⟨h1, h2⟩, h3⟩ := hB
    have hr : j ∈ Region.ready .any ops listed := by
      obtain ⟨x, hx, hb⟩ := List.any_eq_true.1 h1
      rw [Nat.eq_of_beq_eq_true hb]; exact hx
    obtain ⟨_, oj, hj, _⟩ := mem_ready.1 hr
    refine Jd_first hsel F hj r.length listed a I L hc hr ?_ (Stp_mono (fun a' I' L' h => Pl_Jd hsel F r _ a' I' L' (hc.set hr) h3 h) (h oj hj))
    intro i oi hoi hij hun
    have := List.all_eq_true.1 h2 i (List.mem_range.2 (Array.getElem?_eq_some_iff.1 hoi).1)
    simp only [Bool.or_eq_true, Bool.and_eq_true, hoi, hj, hun] at this
    rcases this with ((h | h) | h) | h
    · exact absurd (Nat.eq_of_beq_eq_true h) hij
    · cases h
    · exact .inl h
    · exact .inr h

/-- Kinds by a list. -/
def kdOf (l : List Kd) (i : Nat) : Kd := l.getD i .x

/-- The plan's judgement, in environments. -/
def EP (P : Program) (n : Nat) (ops : Array Oper) (Q : Exit → Act → World → Prop) (keep : List Seg) (kd : Nat → Kd) (pl : List Nat) (e : Env) (I : Gh) (L : List Seg) : Prop :=
  ∀ a, Sat n e a → Pl P ops Q keep kd pl a I L

theorem EW_draw {n : Nat} {id : Nat} {e : Env} {I : Gh} {L : List Seg} (keep : List Seg) (kl : List Kd) (pl : List Nat) (hm : P.follows .mixedOrders = true) (hs : Region.noSelect ops = true)
    (hB : planB ops (kdOf kl) ops.size pl (Array.replicate ops.size false) = true) (hl : pl.length = ops.size) (h : EP P n ops Q keep (kdOf kl) pl e I L) : EW P n (.region id ops true) Q e I L := by
  intro a w ha hw
  refine wp_region_any hm ?_
  rw [← hl]
  rw [hl]
  have hc : Closed ops (Array.replicate ops.size false) := by
    intro i o ho hi
    have hlt := (Array.getElem?_eq_some_iff.1 ho).1
    simp [hlt] at hi
  have := Pl_Jd (Region.noSelect_spec hs) ops.size pl _ a I L hc hB (h a ha)
  rw [hl] at this
  exact Jd_sound _ _ a I L _ (hw.drawn _) this

theorem aX.mono {o : Oper} {a : Act} {I J : Gh} {L : List Seg} {post : Gh → List Seg → Value → Prop} (h : aX P o a I L post) (hI : I.le J) : aX P o a J L post := fun K E w hK hw => h K E w (hI.trans hK) hw
/-- What goes on from less that is frozen goes on from more. -/
theorem Pl_le {I J : Gh} (hI : I.le J) : ∀ (pl : List Nat) (a : Act) (L : List Seg), Pl P ops Q keep kd pl a I L → Pl P ops Q keep kd pl a J L
  | [], _, _, h => fun w hw => h w (hw.less hI)
  | j :: r, a, L, h => fun o ho => by
    obtain ⟨h1, h2⟩ := h o ho
    refine ⟨fun hw => Pl_le hI r _ _ (h1 hw), fun hw => ?_⟩
    have h3 := h2 hw
    cases hk : kd j <;> rw [hk] at h3 <;> simp only at h3 ⊢
    · obtain ⟨v, hs, hc⟩ := h3; exact ⟨v, hs.mono hI (.refl L), Pl_le hI r _ _ hc⟩
    · obtain ⟨v, hs, hc⟩ := h3; exact ⟨v, hs.mono hI (.refl L), fun K u hK hp => hc K u (hI.trans hK) hp⟩
    · obtain ⟨v, ob, hs, hc⟩ := h3; exact ⟨v, ob, hs, fun b => Pl_le hI r _ _ (hc b)⟩
    · obtain ⟨v, hs, hc⟩ := h3; exact ⟨v, hs.mono hI, fun K M u hK hp => hc K M u (hI.trans hK) hp⟩
    · obtain ⟨v, hs, hin, hc⟩ := h3; exact ⟨v, hs.mono hI (.refl keep), hin, Pl_le hI r _ _ hc⟩
    · obtain ⟨v, hs, hke, hc⟩ := h3; exact ⟨v, hs.mono hI, hke, fun K M u hK hp => hc K M u (hI.trans hK) hp⟩

section
variable {n : Nat} {e : Env} {I : Gh} {L : List Seg} {o : Oper} {j : Nat} {r : List Nat}
theorem EP_le {J : Gh} (hI : I.le J) (h : EP P n ops Q keep kd r e I L) : EP P n ops Q keep kd r e J L := fun a ha => Pl_le hI r a L (h a ha)
theorem EP_nil (h : EQ n (Q .normal) e I L) : EP P n ops Q keep kd [] e I L := fun a ha w hw => h a w ha hw
theorem EP_s {v : Value} {d0 : Tmp} (hj : ops[j]? = some o) (hk : kd j = .s) (hg : o.guard = none) (hd : o.dst = some d0) (hn : Nat.blt d0 n = true)
    (h : OS P n o e I L v) (k : EP P n ops Q keep kd r ((d0, v) :: e) I L) : EP P n ops Q keep kd (j :: r) e I L := by
  intro a ha o' ho'
  have : o' = o := Option.some.inj (ho'.symm.trans hj)
  subst this
  have put : ∀ v, Sat n ((d0, v) :: e) (a.put o'.dst v) := fun v => by
    have := ha.put (d := o'.dst) (by rw [hd]; exact hn) v
    rw [hd] at this ⊢; exact this
  refine ⟨fun hw => by simp [Region.wanted, hg] at hw, fun _ => ?_⟩
  rw [hk]
  exact ⟨v, fun J M w hJ hM hw => h J M a w hJ hM ha hw, k _ (put v)⟩
theorem EP_s_yes {i d : Nat} {b : Bool} {v : Value} {d0 : Tmp} (hj : ops[j]? = some o) (hk : kd j = .s) (hg : o.guard = some (i, b)) (hi : (ops[i]?).bind (·.dst) = some d) (hv : get e d = some (.bool b)) (hd : o.dst = some d0) (hn : Nat.blt d0 n = true)
    (h : OS P n o e I L v) (k : EP P n ops Q keep kd r ((d0, v) :: e) I L) : EP P n ops Q keep kd (j :: r) e I L := by
  intro a ha o' ho'
  have : o' = o := Option.some.inj (ho'.symm.trans hj)
  subst this
  have put : ∀ v, Sat n ((d0, v) :: e) (a.put o'.dst v) := fun v => by
    have := ha.put (d := o'.dst) (by rw [hd]; exact hn) v
    rw [hd] at this ⊢; exact this
  have hw : Region.wanted o' (yielded ops a.tmps) = true := by simp [Region.wanted, hg, yielded_env ha hi hv]
  refine ⟨fun h => (by rw [hw] at h; cases h), fun _ => ?_⟩
  rw [hk]
  exact ⟨v, fun J M w hJ hM hw => h J M a w hJ hM ha hw, k _ (put v)⟩
theorem EP_g {post : Gh → Value → Prop} {d0 : Tmp} (hj : ops[j]? = some o) (hk : kd j = .g) (hg : o.guard = none) (hd : o.dst = some d0) (hn : Nat.blt d0 n = true)
    (h : OG P n o e I L post) (k : ∀ K u, I.le K → post K u → EP P n ops Q keep kd r ((d0, u) :: e) K L) : EP P n ops Q keep kd (j :: r) e I L := by
  intro a ha o' ho'
  have : o' = o := Option.some.inj (ho'.symm.trans hj)
  subst this
  have put : ∀ v, Sat n ((d0, v) :: e) (a.put o'.dst v) := fun v => by
    have := ha.put (d := o'.dst) (by rw [hd]; exact hn) v
    rw [hd] at this ⊢; exact this
  refine ⟨fun hw => by simp [Region.wanted, hg] at hw, fun _ => ?_⟩
  rw [hk]
  exact ⟨post, fun J M w hJ hM hw => h J M a w hJ hM ha hw, fun K u hK hp => k K u hK hp _ (put u)⟩
theorem EP_g_yes {i d : Nat} {b : Bool} {post : Gh → Value → Prop} {d0 : Tmp} (hj : ops[j]? = some o) (hk : kd j = .g) (hg : o.guard = some (i, b)) (hi : (ops[i]?).bind (·.dst) = some d) (hv : get e d = some (.bool b)) (hd : o.dst = some d0) (hn : Nat.blt d0 n = true)
    (h : OG P n o e I L post) (k : ∀ K u, I.le K → post K u → EP P n ops Q keep kd r ((d0, u) :: e) K L) : EP P n ops Q keep kd (j :: r) e I L := by
  intro a ha o' ho'
  have : o' = o := Option.some.inj (ho'.symm.trans hj)
  subst this
  have put : ∀ v, Sat n ((d0, v) :: e) (a.put o'.dst v) := fun v => by
    have := ha.put (d := o'.dst) (by rw [hd]; exact hn) v
    rw [hd] at this ⊢; exact this
  have hw : Region.wanted o' (yielded ops a.tmps) = true := by simp [Region.wanted, hg, yielded_env ha hi hv]
  refine ⟨fun h => (by rw [hw] at h; cases h), fun _ => ?_⟩
  rw [hk]
  exact ⟨post, fun J M w hJ hM hw => h J M a w hJ hM ha hw, fun K u hK hp => k K u hK hp _ (put u)⟩
theorem EP_a {mk : Nat → Value} {obj : Obj} {d0 : Tmp} (hj : ops[j]? = some o) (hk : kd j = .a) (hg : o.guard = none) (hd : o.dst = some d0) (hn : Nat.blt d0 n = true)
    (h : OA P n o e mk obj) (k : ∀ b, EP P n ops Q keep kd r ((d0, mk b) :: e) I ([(b, obj)] :: L)) : EP P n ops Q keep kd (j :: r) e I L := by
  intro a ha o' ho'
  have : o' = o := Option.some.inj (ho'.symm.trans hj)
  subst this
  have put : ∀ v, Sat n ((d0, v) :: e) (a.put o'.dst v) := fun v => by
    have := ha.put (d := o'.dst) (by rw [hd]; exact hn) v
    rw [hd] at this ⊢; exact this
  refine ⟨fun hw => by simp [Region.wanted, hg] at hw, fun _ => ?_⟩
  rw [hk]
  exact ⟨mk, obj, fun w => h a w ha, fun b => k b _ (put _)⟩
theorem EP_a_yes {i d : Nat} {b : Bool} {mk : Nat → Value} {obj : Obj} {d0 : Tmp} (hj : ops[j]? = some o) (hk : kd j = .a) (hg : o.guard = some (i, b)) (hi : (ops[i]?).bind (·.dst) = some d) (hv : get e d = some (.bool b)) (hd : o.dst = some d0) (hn : Nat.blt d0 n = true)
    (h : OA P n o e mk obj) (k : ∀ b, EP P n ops Q keep kd r ((d0, mk b) :: e) I ([(b, obj)] :: L)) : EP P n ops Q keep kd (j :: r) e I L := by
  intro a ha o' ho'
  have : o' = o := Option.some.inj (ho'.symm.trans hj)
  subst this
  have put : ∀ v, Sat n ((d0, v) :: e) (a.put o'.dst v) := fun v => by
    have := ha.put (d := o'.dst) (by rw [hd]; exact hn) v
    rw [hd] at this ⊢; exact this
  have hw : Region.wanted o' (yielded ops a.tmps) = true := by simp [Region.wanted, hg, yielded_env ha hi hv]
  refine ⟨fun h => (by rw [hw] at h; cases h), fun _ => ?_⟩
  rw [hk]
  exact ⟨mk, obj, fun w => h a w ha, fun b => k b _ (put _)⟩
theorem EP_x {post : Gh → List Seg → Value → Prop} (hj : ops[j]? = some o) (hk : kd j = .x) (hg : o.guard = none) (hd : dstOk n o.dst = true) (h : OX P n o e I L post)
    (k : ∀ K M u, I.le K → post K M u → EP P n ops Q keep kd r (putE e o.dst u) K M) : EP P n ops Q keep kd (j :: r) e I L := by
  intro a ha o' ho'
  have : o' = o := Option.some.inj (ho'.symm.trans hj)
  subst this
  refine ⟨fun hw => by simp [Region.wanted, hg] at hw, fun _ => ?_⟩
  rw [hk]
  exact ⟨post, fun J E w hJ hw => h J E a w hJ ha hw, fun K M u hK hp => k K M u hK hp _ (ha.put hd u)⟩
theorem EP_x_yes {i d : Nat} {b : Bool} {post : Gh → List Seg → Value → Prop} (hj : ops[j]? = some o) (hk : kd j = .x) (hg : o.guard = some (i, b)) (hi : (ops[i]?).bind (·.dst) = some d) (hv : get e d = some (.bool b)) (hd : dstOk n o.dst = true)
    (h : OX P n o e I L post) (k : ∀ K M u, I.le K → post K M u → EP P n ops Q keep kd r (putE e o.dst u) K M) : EP P n ops Q keep kd (j :: r) e I L := by
  intro a ha o' ho'
  have : o' = o := Option.some.inj (ho'.symm.trans hj)
  subst this
  have hw : Region.wanted o' (yielded ops a.tmps) = true := by simp [Region.wanted, hg, yielded_env ha hi hv]
  refine ⟨fun h => (by rw [hw] at h; cases h), fun _ => ?_⟩
  rw [hk]
  exact ⟨post, fun J E w hJ hw => h J E a w hJ ha hw, fun K M u hK hp => k K M u hK hp _ (ha.put hd u)⟩
theorem EP_r {v : Value} {d0 : Tmp} (hj : ops[j]? = some o) (hk : kd j = .r) (hg : o.guard = none) (hd : o.dst = some d0) (hn : Nat.blt d0 n = true) (hin : Incl keep L)
    (h : OS P n o e I keep v) (k : EP P n ops Q keep kd r ((d0, v) :: e) I L) : EP P n ops Q keep kd (j :: r) e I L := by
  intro a ha o' ho'
  have : o' = o := Option.some.inj (ho'.symm.trans hj)
  subst this
  have put : ∀ v, Sat n ((d0, v) :: e) (a.put o'.dst v) := fun v => by
    have := ha.put (d := o'.dst) (by rw [hd]; exact hn) v
    rw [hd] at this ⊢; exact this
  refine ⟨fun hw => by simp [Region.wanted, hg] at hw, fun _ => ?_⟩
  rw [hk]
  exact ⟨v, fun J M w hJ hM hw => h J M a w hJ hM ha hw, hin, k _ (put v)⟩
/-- Anything that keeps what is to be kept. -/
theorem EP_k {post : List Seg → Value → Prop} {d0 : Tmp} (hj : ops[j]? = some o) (hk : kd j = .y) (hg : o.guard = none) (hd : o.dst = some d0) (hn : Nat.blt d0 n = true) (h : OX P n o e I L fun _ M u => post M u)
    (hke : ∀ M u, post M u → Incl keep M) (k : ∀ M u, post M u → EP P n ops Q keep kd r ((d0, u) :: e) I M) : EP P n ops Q keep kd (j :: r) e I L := by
  intro a ha o' ho'
  have : o' = o := Option.some.inj (ho'.symm.trans hj)
  subst this
  have put : ∀ v, Sat n ((d0, v) :: e) (a.put o'.dst v) := fun v => by
    have := ha.put (d := o'.dst) (by rw [hd]; exact hn) v
    rw [hd] at this ⊢; exact this
  refine ⟨fun hw => by simp [Region.wanted, hg] at hw, fun _ => ?_⟩
  rw [hk]
  exact ⟨_, fun J E w hJ hw => h J E a w hJ ha hw, fun _ M u hp => hke M u hp, fun K M u hK hp => Pl_le hK _ _ _ (k M u hp _ (put u))⟩
/-- Not wanted. -/
theorem EP_no {i d d0 : Nat} {b b' : Bool} (hj : ops[j]? = some o) (hg : o.guard = some (i, b')) (hb : (b == b') = false) (hi : (ops[i]?).bind (·.dst) = some d) (hv : get e d = some (.bool b)) (hd : o.dst = some d0) (hn : Nat.blt d0 n = true)
    (k : EP P n ops Q keep kd r ((d0, undef) :: e) I L) : EP P n ops Q keep kd (j :: r) e I L := by
  intro a ha o' ho'
  have : o' = o := Option.some.inj (ho'.symm.trans hj)
  subst this
  have put : ∀ v, Sat n ((d0, v) :: e) (a.put o'.dst v) := fun v => by
    have := ha.put (d := o'.dst) (by rw [hd]; exact hn) v
    rw [hd] at this ⊢; exact this
  have hw : Region.wanted o' (yielded ops a.tmps) = false := by
    simp only [Region.wanted, hg, yielded_env ha hi hv]
    cases b <;> cases b' <;> simp_all
  exact ⟨fun _ => k _ (put undef), fun h => by rw [hw] at h; cases h⟩
/-- Not wanted: its guard was not wanted either. -/
theorem EP_nou {i d d0 : Nat} {b' : Bool} (hj : ops[j]? = some o) (hg : o.guard = some (i, b')) (hi : (ops[i]?).bind (·.dst) = some d) (hv : get e d = some undef) (hd : o.dst = some d0) (hn : Nat.blt d0 n = true)
    (k : EP P n ops Q keep kd r ((d0, undef) :: e) I L) : EP P n ops Q keep kd (j :: r) e I L := by
  intro a ha o' ho'
  have : o' = o := Option.some.inj (ho'.symm.trans hj)
  subst this
  have put : ∀ v, Sat n ((d0, v) :: e) (a.put o'.dst v) := fun v => by
    have := ha.put (d := o'.dst) (by rw [hd]; exact hn) v
    rw [hd] at this ⊢; exact this
  have hw : Region.wanted o' (yielded ops a.tmps) = false := by
    simp only [Region.wanted, hg, yielded_undef ha hi hv]; rfl
  exact ⟨fun _ => k _ (put undef), fun h => by rw [hw] at h; cases h⟩
theorem EP_weaken {e' : Env} (hs : SubE e' e) (h : EP P n ops Q keep kd r e' I L) : EP P n ops Q keep kd r e I L := fun a ha => h a (ha.sub hs)
end
end
end Go.Gl
