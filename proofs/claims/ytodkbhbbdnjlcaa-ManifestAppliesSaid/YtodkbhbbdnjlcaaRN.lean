/- Proved here: the part RN of the proof that the law of this seat returns true for every input; no condition. -/
import Derived.Test.YtodkbhbbdnjlcaaRM
import Derived.Test.YtodkbhbbdnjlcaaGl10
set_option maxRecDepth 20000
set_option linter.unusedVariables false
set_option linter.unusedSimpArgs false
namespace Go.Proofs.Ytodkbhbbdnjlcaa
open Go Go.Gl


section
variable {H : Type} {enc : TypeId × Value → H} {w : World} {held : Bool} {cs : List Value}
theorem cof (t : TypeId) {n : Nat} (h : Try.prog.cellsOf t = n) : Try.prog.cellsOf t = n := h
theorem c3 : Try.prog.cellsOf 3 = 1 := by kernel_rfl
theorem c4 : Try.prog.cellsOf 4 = 1 := by kernel_rfl
theorem c5 : Try.prog.cellsOf 5 = 1 := by kernel_rfl
theorem c22 : Try.prog.cellsOf 22 = 1 := by kernel_rfl
theorem c23 : Try.prog.cellsOf 23 = 1 := by kernel_rfl
theorem c25 : Try.prog.cellsOf 25 = 3 := by kernel_rfl
theorem c33 : Try.prog.cellsOf 33 = 1 := by kernel_rfl
theorem c35 : Try.prog.cellsOf 35 = 4 := by kernel_rfl
theorem c49 : Try.prog.cellsOf 49 = 1 := by kernel_rfl
theorem c55 : Try.prog.cellsOf 55 = 6 := by kernel_rfl
theorem by5 : Try.prog.bytesOf 5 = 1 := by kernel_rfl
theorem u22 : Try.prog.underlying 22 = some (.slice 55) := by kernel_rfl
theorem u26 : Try.prog.underlying 26 = some (.slice 35) := by kernel_rfl
theorem u33 : Try.prog.underlying 33 = some (.slice 23) := by kernel_rfl
theorem u49 : Try.prog.underlying 49 = some (.slice 5) := by kernel_rfl
def structB (P : Program) (t : TypeId) (l : Array (TypeId × Nat)) : Bool := match P.underlying t with | some (.struct fs) => (fs.map fun f => (f.type, f.offset)) == l | _ => false
theorem structB_spec {P : Program} {t : TypeId} {l : Array (TypeId × Nat)} (h : structB P t l = true) : ∃ fs, P.underlying t = some (.struct fs) ∧ (fs.map fun f => (f.type, f.offset)) = l := by
  unfold structB at h
  split at h
  · rename_i fs hu
    exact ⟨fs, hu, by simpa using h⟩
  · cases h
theorem st55 : ∃ fs, Try.prog.underlying 55 = some (.struct fs) ∧ (fs.map fun f => (f.type, f.offset)) = #[(23, 0), (3, 1), (49, 2), (49, 3), (3, 4), (3, 5)] := structB_spec (by kernel_rfl)
theorem st25 : ∃ fs, Try.prog.underlying 25 = some (.struct fs) ∧ (fs.map fun f => (f.type, f.offset)) = #[(22, 0), (23, 1), (23, 2)] := structB_spec (by kernel_rfl)
theorem st35 : ∃ fs, Try.prog.underlying 35 = some (.struct fs) ∧ (fs.map fun f => (f.type, f.offset)) = #[(4, 0), (22, 1), (33, 2), (23, 3)] := structB_spec (by kernel_rfl)
theorem field_of {fs : Array Field} {l : Array (TypeId × Nat)} (h : (fs.map fun f => (f.type, f.offset)) = l) {i : Nat} {t o : Nat} (hi : l[i]? = some (t, o)) : ∃ f, fs[i]? = some f ∧ f.type = t ∧ f.offset = o := by
  subst h
  rw [Array.getElem?_map, Option.map_eq_some_iff] at hi
  obtain ⟨f, hf, he⟩ := hi
  simp only [Prod.mk.injEq] at he
  exact ⟨f, hf, he.1, he.2⟩
theorem reads_at {t : TypeId} {l : Array (TypeId × Nat)} (hs : ∃ fs, Try.prog.underlying t = some (.struct fs) ∧ (fs.map fun f => (f.type, f.offset)) = l) (h : Reads enc Try.prog w held t cs) {i : Nat} {u o n : Nat} (hi : l[i]? = some (u, o)) (hn : Try.prog.cellsOf u = n) :
    Reads enc Try.prog w held u ((cs.drop o).take n) := by
  obtain ⟨fs, h1, h2⟩ := hs
  obtain ⟨f, hf, rfl, rfl⟩ := field_of h2 hi
  subst hn
  exact (h.struct h1).2 i f hf
theorem reads_len {t : TypeId} {l : Array (TypeId × Nat)} (hs : ∃ fs, Try.prog.underlying t = some (.struct fs) ∧ (fs.map fun f => (f.type, f.offset)) = l) (h : Reads enc Try.prog w held t cs) : cs.length = Try.prog.cellsOf t := by
  obtain ⟨fs, h1, _⟩ := hs
  exact (h.struct h1).1
theorem reads_file (h : Reads enc Try.prog w held 55 cs) : ∃ p : PF, cs = rcells p ∧ p.Ok (ghAll w) := by
  obtain ⟨x0, x1, x2, x3, x4, x5, rfl⟩ := len6 ((reads_len st55 h).trans c55)
  obtain ⟨n0, e0, w0⟩ := (reads_at st55 h (i := 0) rfl c23).int int23
  obtain ⟨n1, e1, _⟩ := (reads_at st55 h (i := 1) rfl c3).int int3
  obtain ⟨a2, m2, k2, l2, e2, b2, g2⟩ := (reads_at st55 h (i := 2) rfl c49).bytes u49 int5 c5 by5
  obtain ⟨a3, m3, k3, l3, e3, b3, g3⟩ := (reads_at st55 h (i := 3) rfl c49).bytes u49 int5 c5 by5
  obtain ⟨n4, e4, _⟩ := (reads_at st55 h (i := 4) rfl c3).int int3
  obtain ⟨n5, e5, _⟩ := (reads_at st55 h (i := 5) rfl c3).int int3
  simp at e0 e1 e2 e3 e4 e5
  subst e0; subst e1; subst e2; subst e3; subst e4; subst e5
  have := wf_u64 w0
  exact ⟨⟨⟨n0, n1, n4, n5, l2, l3⟩, ⟨a2, m2, k2⟩, ⟨a3, m3, k3⟩⟩, rfl, ⟨g2, g3, b2, b3, this.1, this.2⟩⟩
theorem reads_files (h : Reads enc Try.prog w held 22 cs) : ∃ (a : Option Addr) (n c : Nat) (ps : List PF), cs = [.slice a n c] ∧ Row (ghAll w) [] a n c 6 (ps.map rcells) ∧ ∀ p ∈ ps, p.Ok (ghAll w) := by
  obtain ⟨a, n, c, xs, hcs, hr, _, hx⟩ := h.slice u22 c55
  obtain ⟨l, rfl, hl⟩ := rows_map (f := rcells) (Q := fun p => p.Ok (ghAll w)) (xs := xs) fun y hy => reads_file (hx y hy)
  exact ⟨a, n, c, l, hcs, hr, hl⟩
theorem reads_nums (h : Reads enc Try.prog w held 33 cs) : ∃ (a : Option Addr) (n c : Nat) (l : List Int), cs = [.slice a n c] ∧ Row (ghAll w) [] a n c 1 (u64s l) := by
  obtain ⟨a, n, c, xs, hcs, hr, _, hx⟩ := h.slice u33 c23
  obtain ⟨l, rfl, _⟩ := rows_map (f := fun x : Int => [.int .u64 x]) (Q := fun _ => True) (xs := xs) fun y hy => by
    obtain ⟨z, rfl, _⟩ := (hx y hy).int int23
    exact ⟨z, rfl, trivial⟩
  exact ⟨a, n, c, l, hcs, hr⟩
theorem reads_version (h : Reads enc Try.prog w held 25 cs) : ∃ r : Vr, cs = vcells r.h r.nx r.sq ∧ VrI (ghAll w) r := by
  obtain ⟨x0, x1, x2, rfl⟩ := len3 ((reads_len st25 h).trans c25)
  obtain ⟨a, n, c, ps, e0, hr, hp⟩ := reads_files (reads_at st25 h (i := 0) rfl c22)
  obtain ⟨n1, e1, w1⟩ := (reads_at st25 h (i := 1) rfl c23).int int23
  obtain ⟨n2, e2, w2⟩ := (reads_at st25 h (i := 2) rfl c23).int int23
  simp at e0 e1 e2
  subst e0; subst e1; subst e2
  have h1 := wf_u64 w1
  have h2 := wf_u64 w2
  exact ⟨⟨⟨a, n, c⟩, ps, n1, n2⟩, rfl, ⟨hr, hp, h1.1, h1.2, h2.1, h2.2⟩⟩
theorem reads_edit (h : Reads enc Try.prog w held 35 cs) : ∃ r : Er, cs = ecs r ∧ ErI (ghAll w) r := by
  obtain ⟨x0, x1, x2, x3, rfl⟩ := len4 ((reads_len st35 h).trans c35)
  obtain ⟨b, e0⟩ := (reads_at st35 h (i := 0) rfl c4).bool bool4
  obtain ⟨a, n, c, ps, e1, hr, hp⟩ := reads_files (reads_at st35 h (i := 1) rfl c22)
  obtain ⟨a', n', c', l, e2, hd⟩ := reads_nums (reads_at st35 h (i := 2) rfl c33)
  obtain ⟨n3, e3, w3⟩ := (reads_at st35 h (i := 3) rfl c23).int int23
  simp at e0 e1 e2 e3
  subst e0; subst e1; subst e2; subst e3
  have h1 := wf_u64 w3
  exact ⟨⟨b, ⟨a, n, c⟩, ps, ⟨a', n', c'⟩, l, n3⟩, rfl, ⟨hr, hp, hd, h1.1, h1.2⟩⟩
theorem reads_edits (h : Reads enc Try.prog w held 26 cs) : ∃ (a : Option Addr) (n c : Nat) (es : List Er), cs = [.slice a n c] ∧ Row (ghAll w) [] a n c 4 (es.map ecs) ∧ ∀ e ∈ es, ErI (ghAll w) e := by
  obtain ⟨a, n, c, xs, hcs, hr, _, hx⟩ := h.slice u26 c35
  obtain ⟨l, rfl, hl⟩ := rows_map (f := ecs) (Q := fun p => ErI (ghAll w) p) (xs := xs) fun y hy => reads_edit (hx y hy)
  exact ⟨a, n, c, l, hcs, hr, hl⟩
end


end Go.Proofs.Ytodkbhbbdnjlcaa
