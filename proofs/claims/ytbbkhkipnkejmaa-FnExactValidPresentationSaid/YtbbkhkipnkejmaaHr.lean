import Derived.Test.YtbbkhkipnkejmaaXx0
import Derived.Deep.Matrix
import Derived.Deep.Grids
import Derived.Lib.SmallJoins
import Derived.ProofKit
import Derived.OpenShut
import Derived.Deep.Slices
namespace Go.Proofs.Ytbbkhkipnkejmaa.X
open Go Go.RowKit Go.Proofs.YtbbkhkipnkejmaaW.PrintWords Go.Proofs.YtbbkhkipnkejmaaW.PrintLast Go.Proofs.YtbbkhkipnkejmaaW.PrintMore
set_option linter.unusedVariables false
set_option linter.unusedSimpArgs false

/-! ### A relation that is handed in (law rows): its value and rows -/
open Go.ChangeShapes Go.WideShapes Go.ChangeAt Go.Deep Go.Joins
/-- The rows of a relation, as a law's world reads them. -/
def RelIn (W : World) (A2 : Option Addr) (c2 : Nat) (l2 : List Bool) (A3 : Option Addr) (c3 : Nat) (l3 : List (List Int)) : Prop :=
  Kd.C Kd.bool W A2 l2.length l2 ∧ l2.length ≤ c2 ∧ Kd.C (Kd.slice 2 (Kd.int .i64)) W A3 l3.length l3 ∧ l3.length ≤ c3 ∧ l2.length ≤ 9223372036854775807 ∧ l3.length ≤ 9223372036854775807 ∧ (∀ x ∈ l3, x.length ≤ 9223372036854775807) ∧ ∀ x ∈ l3, ∀ n ∈ x, (Lit.int .i64 n).wf = true
theorem open_bool_row {H : Type} {enc : TypeId × Value → H} {W : World} {base : Nat} {held : Bool} {fuel : Nat} {v : Value} {x : DataW H × List MemPlace} (h : DataW.trod enc Try.prog W base (fun _ => true) held fuel 38 [v] = some x) :
    ∃ (A : Option Addr) (c : Nat) (l : List Bool), v = .slice A l.length c ∧ Kd.C Kd.bool W A l.length l ∧ l.length ≤ c ∧ l.length ≤ 9223372036854775807 := by
  rcases open_bools Try.underlying38 Try.underlying4 (by kernel_rfl) h with ⟨hcs, _⟩ | ⟨a, len, cap, B, hcs, _, hl, hm, _, hcell⟩
  · simp at hcs
    exact ⟨none, 0, [], by simpa using hcs, ⟨rfl, by simp, fun h => absurd h (by simp)⟩, by simp, by simp⟩
  · simp at hcs
    have hm' : cap ≤ 9223372036854775807 := hm
    refine ⟨some a, cap, (List.range len).map B, by simpa using hcs, ⟨rfl, by simp; omega, fun _ => ⟨a, rfl, fun j p hj => ?_⟩⟩, by simpa using hl, by simp; omega⟩
    have hjl := (List.getElem?_eq_some_iff.1 hj).1
    simp at hjl
    refine ⟨[.bool p], rfl, rfl, fun i u hu => ?_⟩
    have hi : i = 0 := by
      have := (List.getElem?_eq_some_iff.1 hu).1
      simp at this
      omega
    subst hi
    simp at hu hj
    obtain ⟨_, hj⟩ := hj
    subst hu
    rw [show j * Kd.bool.sz + 0 = j by simp [show Kd.bool.sz = 1 from rfl], hcell j (by omega)]
    simp_all
theorem open_int_row {W : World} {A : Option Addr} {L C : Nat} {Z : List Int} (hL : L ≤ C) (hC : C ≤ maxLen) (hZ : Z.length = C) (hN : A = none → C = 0) (hA : ∀ a', A = some a' → ∀ c, c < C → W.cell? (a'.add c) = some (.int .i64 (Z.getD c 0))) :
    Kd.C (Kd.int .i64) W A (Z.take L).length (Z.take L) := by
  have hC' : C ≤ 9223372036854775807 := hC
  refine ⟨rfl, by simp; omega, fun h => ?_⟩
  cases A with
  | none => have := hN rfl; simp at h; omega
  | some a =>
    refine ⟨a, rfl, fun j p hj => ?_⟩
    have hjl := (List.getElem?_eq_some_iff.1 hj).1
    simp at hjl
    refine ⟨[.int .i64 p], rfl, rfl, fun i u hu => ?_⟩
    have hi : i = 0 := by
      have := (List.getElem?_eq_some_iff.1 hu).1
      simp at this
      omega
    subst hi
    simp at hu
    subst hu
    rw [show j * (Kd.int .i64).sz + 0 = j by simp [show (Kd.int .i64).sz = 1 from rfl], hA a rfl j (by omega)]
    rw [List.getElem?_take] at hj
    rw [if_pos (by omega)] at hj
    simp [List.getD_eq_getElem?_getD, hj]
theorem open_rows {H : Type} {enc : TypeId × Value → H} {W : World} {base : Nat} {held : Bool} {fuel : Nat} {v : Value} {x : DataW H × List MemPlace} (h : DataW.trod enc Try.prog W base (fun _ => true) held fuel 39 [v] = some x) :
    ∃ (A : Option Addr) (c : Nat) (l : List (List Int)), v = .slice A l.length c ∧ Kd.C (Kd.slice 2 (Kd.int .i64)) W A l.length l ∧ l.length ≤ c ∧ l.length ≤ 9223372036854775807 ∧ (∀ x ∈ l, x.length ≤ 9223372036854775807) ∧ ∀ x ∈ l, ∀ n ∈ x, (Lit.int .i64 n).wf = true := by
  rcases open_int_rows Try.underlying39 Try.underlying28 Try.underlying2 (by kernel_rfl) (by kernel_rfl) h with ⟨hcs, _⟩ | ⟨a, len, cap, A, L, C, Z, hcs, _, hl, hm, _, hr⟩
  · simp at hcs
    exact ⟨none, 0, [], by simpa using hcs, ⟨rfl, by simp, fun h => absurd h (by simp)⟩, by simp, by simp, by simp, by simp⟩
  · simp at hcs
    have hm' : cap ≤ 9223372036854775807 := hm
    refine ⟨some a, cap, (List.range len).map fun r => (Z r).take (L r), by simpa using hcs, ⟨rfl, by simp; omega, fun _ => ⟨a, rfl, fun j p hj => ?_⟩⟩, by simpa using hl, by simp; omega, ?_, ?_⟩
    · have hjl := (List.getElem?_eq_some_iff.1 hj).1
      simp at hjl
      obtain ⟨g1, g2, g3, g4, g5, g6, g7⟩ := hr j (by omega)
      simp at hj
      obtain ⟨_, hj⟩ := hj
      have ep : p = (Z j).take (L j) := by simp_all
      subst ep
      have el : ((Z j).take (L j)).length = L j := by simp; omega
      refine ⟨[.slice (A j) ((Z j).take (L j)).length (C j)], rfl, ⟨A j, C j, rfl, by omega, open_int_row g2 g3 g4 g6 fun a' ha => (g7 a' ha).2⟩, fun i u hu => ?_⟩
      have hi : i = 0 := by
        have := (List.getElem?_eq_some_iff.1 hu).1
        simp at this
        omega
      subst hi
      rw [List.getElem?_cons_zero] at hu
      injection hu with hu
      subst hu
      rw [show j * (Kd.slice 2 (Kd.int .i64)).sz + 0 = j by simp [show (Kd.slice 2 (Kd.int .i64)).sz = 1 from rfl], g1, el]
    · intro y hy
      obtain ⟨r, hrm, rfl⟩ := List.mem_map.1 hy
      obtain ⟨g1, g2, g3, g4, g5, g6, g7⟩ := hr r (by have := List.mem_range.1 hrm; omega)
      have g3' : C r ≤ 9223372036854775807 := g3
      simp
      omega
    · intro y hy n hn
      obtain ⟨r, hrm, rfl⟩ := List.mem_map.1 hy
      obtain ⟨g1, g2, g3, g4, g5, g6, g7⟩ := hr r (by have := List.mem_range.1 hrm; omega)
      exact g5 n (List.mem_of_mem_take hn)
set_option maxRecDepth 100000 in
theorem open_rel {H : Type} {enc : TypeId × Value → H} {W : World} {base : Nat} {held : Bool} {r : Reach} {b0 : Nat} {v : Value} {d : DataW H} {p : List MemPlace} (hv : Value.okWide Try.prog W r b0 41 v) (h : DataW.Trod enc Try.prog W base (fun _ => true) held 41 v d p) :
    ∃ (t s : Int) (A2 : Option Addr) (c2 : Nat) (l2 : List Bool) (A3 : Option Addr) (c3 : Nat) (l3 : List (List Int)), v = .agg #[.int .i64 t, .int .i64 s, .slice A2 l2.length c2, .slice A3 l3.length c3] ∧ (Lit.int .i64 t).wf = true ∧ (Lit.int .i64 s).wf = true ∧ RelIn W A2 c2 l2 A3 c3 l3 := by
  obtain ⟨v0, v1, v2, v3, y0, y1, y2, y3, n, rfl, _, _, h0, h1, h2, h3⟩ := open_agg4 Try.underlying41 (by kernel_rfl) (by kernel_rfl) hv h
  obtain ⟨t, e0, _, w0⟩ := DataW.trod_int Try.underlying2 h0
  obtain ⟨s, e1, _, w1⟩ := DataW.trod_int Try.underlying2 h1
  injection e0 with e0
  injection e1 with e1
  subst e0
  subst e1
  obtain ⟨A2, c2, l2, rfl, g1, g2, g3⟩ := open_bool_row h2
  obtain ⟨A3, c3, l3, rfl, k1, k2, k3, k4, k5⟩ := open_rows h3
  exact ⟨t, s, A2, c2, l2, A3, c3, l3, rfl, w0, w1, g1, g2, k1, k2, g3, k3, k4, k5⟩

/-! ### A presentation that is handed in -/
theorem list4 {α : Type} {cs : List α} (h : cs.length = 4) : ∃ a b c d, cs = [a, b, c, d] := by
  match cs, h with
  | [a, b, c, d], _ => exact ⟨a, b, c, d, rfl⟩
theorem array5 {α : Type} {cs : Array α} (h : cs.size = 5) : ∃ c0 c1 c2 c3 c4, cs = #[c0, c1, c2, c3, c4] := by
  obtain ⟨l⟩ := cs
  match l, h with
  | [c0, c1, c2, c3, c4], _ => exact ⟨c0, c1, c2, c3, c4, rfl⟩
set_option maxRecDepth 100000 in
theorem rel_of_trod {H : Type} {enc : TypeId × Value → H} {W : World} {base : Nat} {held : Bool} {fuel : Nat} {cs : List Value} {x : DataW H × List MemPlace} (h : DataW.trod enc Try.prog W base (fun _ => true) held fuel 41 cs = some x) :
    ∃ (t s : Int) (A2 : Option Addr) (c2 : Nat) (l2 : List Bool) (A3 : Option Addr) (c3 : Nat) (l3 : List (List Int)), cs = [.int .i64 t, .int .i64 s, .slice A2 l2.length c2, .slice A3 l3.length c3] ∧ (Lit.int .i64 t).wf = true ∧ (Lit.int .i64 s).wf = true ∧ RelIn W A2 c2 l2 A3 c3 l3 := by
  obtain ⟨y0, y1, y2, y3, n, _, hl, h0, h1, h2, h3⟩ := trod_struct4 Try.underlying41 h
  have hc : Try.prog.cellsOf 41 = 4 := by kernel_rfl
  have k0 : Try.prog.cellsOf 2 = 1 := by kernel_rfl
  have k2 : Try.prog.cellsOf 38 = 1 := by kernel_rfl
  have k3 : Try.prog.cellsOf 39 = 1 := by kernel_rfl
  obtain ⟨v0, v1, v2, v3, rfl⟩ := list4 (hl.trans hc)
  simp only [k0, k2, k3] at h0 h1 h2 h3
  obtain ⟨t, e0, _, w0⟩ := DataW.trod_int Try.underlying2 (show DataW.trod enc Try.prog W base (fun _ => true) held n 2 [v0] = some y0 from h0)
  obtain ⟨s, e1, _, w1⟩ := DataW.trod_int Try.underlying2 (show DataW.trod enc Try.prog W base (fun _ => true) held n 2 [v1] = some y1 from h1)
  injection e0 with e0
  injection e1 with e1
  subst e0
  subst e1
  obtain ⟨A2, c2, l2, rfl, g1, g2, g3⟩ := open_bool_row (show DataW.trod enc Try.prog W base (fun _ => true) held n 38 [v2] = some y2 from h2)
  obtain ⟨A3, c3, l3, rfl, k1, k2, k3, k4, k5⟩ := open_rows (show DataW.trod enc Try.prog W base (fun _ => true) held n 39 [v3] = some y3 from h3)
  exact ⟨t, s, A2, c2, l2, A3, c3, l3, rfl, w0, w1, g1, g2, k1, k2, g3, k3, k4, k5⟩
instance instInh41 : Inhabited (S41) := ⟨z41⟩
def RelsIn (W : World) (A4 : Option Addr) (c4 : Nat) (l4 : List (S41)) : Prop :=
  Kd.C k41 W A4 l4.length l4 ∧ l4.length ≤ c4 ∧ l4.length ≤ 9223372036854775807 ∧ ∀ x ∈ l4, x.f2.length ≤ 9223372036854775807 ∧ x.f3.length ≤ 9223372036854775807 ∧ ∀ y ∈ x.f3, y.length ≤ 9223372036854775807
set_option maxRecDepth 100000 in
theorem open_rels {H : Type} {enc : TypeId × Value → H} {W : World} {base : Nat} {held : Bool} {fuel : Nat} {v : Value} {x : DataW H × List MemPlace} (h : DataW.trod enc Try.prog W base (fun _ => true) held fuel 52 [v] = some x) :
    ∃ (A : Option Addr) (c : Nat) (l : List (S41)), v = .slice A l.length c ∧ RelsIn W A c l := by
  have hc : Try.prog.cellsOf 41 = 4 := by kernel_rfl
  rcases open_slice Try.underlying52 h with ⟨hcs, _⟩ | ⟨a, len, cap, m, n, D, Pl, hcs, _, hl, hm, hmm, _, hx⟩
  · simp at hcs
    exact ⟨none, 0, [], by simpa using hcs, ⟨rfl, by simp, fun h => absurd h (by simp)⟩, by simp, by simp, by simp⟩
  · simp at hcs
    simp only [if_true] at hmm
    subst hmm
    have hm' : m ≤ 9223372036854775807 := hm
    obtain ⟨X, hX⟩ := choose_lt (α := S41 × Option Addr × Nat × Option Addr × Nat) (n := m) (p := fun i y => RelIn W y.2.1 y.2.2.1 y.1.f2 y.2.2.2.1 y.2.2.2.2 y.1.f3 ∧ ∀ j u, [Value.int .i64 y.1.f0, .int .i64 y.1.f1, .slice y.2.1 y.1.f2.length y.2.2.1, .slice y.2.2.2.1 y.1.f3.length y.2.2.2.2][j]? = some u → W.cell? (a.add (i * 4 + j)) = some u) (fun i hi => by
      obtain ⟨cs', h1, h2⟩ := hx i hi
      obtain ⟨t, s, A2, c2, l2, A3, c3, l3, rfl, _, _, hr⟩ := rel_of_trod h2
      refine ⟨(⟨t, s, l2, l3⟩, A2, c2, A3, c3), hr, fun j u hu => ?_⟩
      have hj : j < 4 := (List.getElem?_eq_some_iff.1 hu).1
      rw [hc] at h1
      have := (World.cells?_some h1).2.2 j hj
      rw [Go.Deep.add_add] at this
      rw [this]
      exact hu)
    refine ⟨some a, m, (List.range len).map fun i => (X i).1, by simpa using hcs, ⟨rfl, by simp; omega, fun _ => ⟨a, rfl, fun j p hj => ?_⟩⟩, by simpa using hl, by simp; omega, ?_⟩
    · have hjl := (List.getElem?_eq_some_iff.1 hj).1
      simp at hjl
      obtain ⟨⟨q1, q2, q3, q4, _⟩, hq⟩ := hX j (by omega)
      have ep : p = (X j).1 := by
        simp at hj
        obtain ⟨_, hj⟩ := hj
        simp_all
      subst ep
      exact ⟨_, rfl, k41_mk W (X j).1 q2 q1 q4 q3, hq⟩
    · intro y hy
      obtain ⟨r, hrm, rfl⟩ := List.mem_map.1 hy
      obtain ⟨⟨_, _, _, _, q5, q6, q7, _⟩, _⟩ := hX r (by have := List.mem_range.1 hrm; omega)
      exact ⟨q5, q6, q7⟩
set_option maxRecDepth 100000 in
theorem open_pres {H : Type} {enc : TypeId × Value → H} {W : World} {base : Nat} {held : Bool} {r : Reach} {b0 : Nat} {v : Value} {d : DataW H} {p : List MemPlace} (hv : Value.okWide Try.prog W r b0 54 v) (h : DataW.Trod enc Try.prog W base (fun _ => true) held 54 v d p) :
    ∃ (t s : Int) (A2 : Option Addr) (c2 : Nat) (l2 : List Bool) (A3 : Option Addr) (c3 : Nat) (l3 : List (List Int)) (A4 : Option Addr) (c4 : Nat) (l4 : List (S41)), v = .agg #[.int .i64 t, .int .i64 s, .slice A2 l2.length c2, .slice A3 l3.length c3, .slice A4 l4.length c4] ∧ (Lit.int .i64 t).wf = true ∧ (Lit.int .i64 s).wf = true ∧ RelIn W A2 c2 l2 A3 c3 l3 ∧ RelsIn W A4 c4 l4 := by
  obtain ⟨cs, rfl, hsz⟩ := okWide_struct Try.underlying54 hv
  have hc : Try.prog.cellsOf 54 = 5 := by kernel_rfl
  have k0 : Try.prog.cellsOf 41 = 4 := by kernel_rfl
  have k1 : Try.prog.cellsOf 52 = 1 := by kernel_rfl
  obtain ⟨c0, c1, c2, c3, c4, rfl⟩ := array5 (hsz.trans hc)
  obtain ⟨fuel, hf⟩ := h
  obtain ⟨y0, y1, n, _, _, h0, h1⟩ := trod_struct2 Try.underlying54 hf
  simp only [k0, k1] at h0 h1
  obtain ⟨t, s, A2, c2', l2, A3, c3', l3, e, w0, w1, hr⟩ := rel_of_trod (show DataW.trod enc Try.prog W base (fun _ => true) held n 41 [c0, c1, c2, c3] = some y0 from h0)
  obtain ⟨A4, c4', l4, rfl, hl⟩ := open_rels (show DataW.trod enc Try.prog W base (fun _ => true) held n 52 [c4] = some y1 from h1)
  simp only [List.cons.injEq, and_true] at e
  obtain ⟨rfl, rfl, rfl, rfl⟩ := e
  exact ⟨t, s, A2, c2', l2, A3, c3', l3, A4, c4', l4, rfl, w0, w1, hr, hl⟩

end Go.Proofs.Ytbbkhkipnkejmaa.X
