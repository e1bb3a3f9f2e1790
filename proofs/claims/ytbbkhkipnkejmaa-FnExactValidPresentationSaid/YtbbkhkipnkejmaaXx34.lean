-- Written by a program of this claim's author, out of the translation.
import Derived.Test.YtbbkhkipnkejmaaXx0
import Derived.Test.YtbbkhkipnkejmaaXx2
import Derived.Test.YtbbkhkipnkejmaaXx8
namespace Go.Proofs.Ytbbkhkipnkejmaa.X
open Go.RowKit Go.Proofs.YtbbkhkipnkejmaaW.PrintWords Go.Proofs.YtbbkhkipnkejmaaW.PrintLast Go.Proofs.YtbbkhkipnkejmaaW.PrintMore
attribute [local go_sem] max2_int min2_int max_two min_two max_three min_three max_four min_four   -- for this text's walks alone
set_option linter.unusedVariables false
set_option linter.unusedSimpArgs false

/-- A state of type 44 at block g of W; what its slices lead to came in by w0. -/
def IsS44 (w0 W : World) (g : Nat) (f0 : Int) (f1 : Int) (f2 : List Bool) (f3 : List (List Int)) : Prop := ∃ A2 c2, ∃ A3 c3, W.heap[g]? = some (.cells #[.int .i64 f0, .int .i64 f1, .slice A2 f2.length c2, .slice A3 f3.length c3] 44 (0, 0)) ∧ w0.heap.size ≤ g ∧ Kd.C Kd.bool w0 A2 f2.length f2 ∧ Kd.C (Kd.slice 2 (Kd.int .i64)) w0 A3 f3.length f3
theorem IsS44.grown {w0 W : World} {g : Nat} {f0 : Int} {f1 : Int} {f2 : List Bool} {f3 : List (List Int)} {W1 : World} {row : Option Nat} (h : IsS44 w0 W g f0 f1 f2 f3) (hw : W.grownBy W1 row) (hne : some g ≠ row) : IsS44 w0 W1 g f0 f1 f2 f3 := by
  obtain ⟨A2, c2, A3, c3, hb, hg, hr2, hr3⟩ := h
  exact ⟨A2, c2, A3, c3, blk_grown hb hw hne, hg, hr2, hr3⟩
theorem IsS44.own_neN {w0 W : World} {g : Nat} {f0 : Int} {f1 : Int} {f2 : List Bool} {f3 : List (List Int)} {α : Type} {d : Kd α} {e : Nat} {base : Nat} {ok : Nat → Prop} {v : Value} {xs : List α} (h : IsS44 w0 W g f0 f1 f2 f3) (ho : Kd.N d e W base ok v xs) (ht : e ≠ 44) : some g ≠ v.ownBlock := by
  obtain ⟨A2, c2, A3, c3, hb, hg, hr2, hr3⟩ := h
  exact Kd.N_ne ho hb ht
theorem IsS44.fresh {w0 W : World} {g : Nat} {f0 : Int} {f1 : Int} {f2 : List Bool} {f3 : List (List Int)} (h : IsS44 w0 W g f0 f1 f2 f3) : ∀ k, W.heap.size ≤ k → k ≠ g := by
  obtain ⟨A2, c2, A3, c3, hb, hg, hr2, hr3⟩ := h
  exact Kd.freshB hb
theorem IsS44.kept {w0 W : World} {g : Nat} {f0 : Int} {f1 : Int} {f2 : List Bool} {f3 : List (List Int)} {W1 : World} {S : Nat → Prop} (h : IsS44 w0 W g f0 f1 f2 f3) (hk : Kept W W1 S) (hne : ¬ S g) : IsS44 w0 W1 g f0 f1 f2 f3 := by
  obtain ⟨A2, c2, A3, c3, hb, hg, hr2, hr3⟩ := h
  exact ⟨A2, c2, A3, c3, blk_kept hb hk hne, hg, hr2, hr3⟩
theorem IsS44.below {w0 W : World} {g : Nat} {f0 : Int} {f1 : Int} {f2 : List Bool} {f3 : List (List Int)} {W1 : World} (h : IsS44 w0 W g f0 f1 f2 f3) (hw : Below W.heap.size W W1) : IsS44 w0 W1 g f0 f1 f2 f3 := h.grown (grown_of_below hw none) (by simp)
theorem IsS44.alloc {w0 W : World} {g : Nat} {f0 : Int} {f1 : Int} {f2 : List Bool} {f3 : List (List Int)} (h : IsS44 w0 W g f0 f1 f2 f3) (o : Obj) : IsS44 w0 (W.alloc o) g f0 f1 f2 f3 := h.below (below_alloc (Below.refl _ _) o)
theorem IsS44.drewN {w0 W : World} {g : Nat} {f0 : Int} {f1 : Int} {f2 : List Bool} {f3 : List (List Int)} (h : IsS44 w0 W g f0 f1 f2 f3) (m : Nat) : IsS44 w0 (W.drewN m) g f0 f1 f2 f3 := h
theorem IsS44.drew {w0 W : World} {g : Nat} {f0 : Int} {f1 : Int} {f2 : List Bool} {f3 : List (List Int)} (h : IsS44 w0 W g f0 f1 f2 f3) : IsS44 w0 W.drew g f0 f1 f2 f3 := h
theorem IsS44.at_ {w0 W : World} {g : Nat} {f0 : Int} {f1 : Int} {f2 : List Bool} {f3 : List (List Int)} {w' : World} {m : Nat} (hq : W.drewN m = w') (h : IsS44 w0 W g f0 f1 f2 f3) : IsS44 w0 w' g f0 f1 f2 f3 := by subst hq; exact IsS44.drewN h m
theorem IsS44.apart {w0 W : World} {g : Nat} {f0 : Int} {f1 : Int} {f2 : List Bool} {f3 : List (List Int)} {α : Type} {d : Kd α} {e : Nat} {base : Nat} {ok : Nat → Prop} {v : Value} {xs : List α} (h : IsS44 w0 W g f0 f1 f2 f3) (ho : d.R e W base ok v xs) (ht : ∀ q, q ∈ e :: d.E → q ≠ 44) : d.R e W base (fun k => ok k ∧ k ≠ g) v xs := by
  obtain ⟨A2, c2, A3, c3, hb, hg, hr2, hr3⟩ := h
  exact Kd.R_types ho hb ht
theorem IsS44.own_ne {w0 W : World} {g : Nat} {f0 : Int} {f1 : Int} {f2 : List Bool} {f3 : List (List Int)} {α : Type} {d : Kd α} {e : Nat} {base : Nat} {ok : Nat → Prop} {v : Value} {xs : List α} (h : IsS44 w0 W g f0 f1 f2 f3) (ho : d.R e W base ok v xs) (ht : e ≠ 44) : some g ≠ v.ownBlock := by
  obtain ⟨A2, c2, A3, c3, hb, hg, hr2, hr3⟩ := h
  exact Kd.R_ne ho hb ht
theorem IsS44.apartQ {w0 W : World} {g : Nat} {f0 : Int} {f1 : Int} {f2 : List Bool} {f3 : List (List Int)} {α : Type} {d : Kd α} {e : Nat} {base : Nat} {ok : Nat → Prop} {v : Value} {xs : List α} (h : IsS44 w0 W g f0 f1 f2 f3) (ho : d.Q e W base ok v xs) (ht : ∀ q, q ∈ e :: d.E → q ≠ 44) : d.Q e W base (fun k => ok k ∧ k ≠ g) v xs := by
  obtain ⟨A2, c2, A3, c3, hb, hg, hr2, hr3⟩ := h
  exact Kd.Q_types ho hb ht
theorem IsS44.own_neQ {w0 W : World} {g : Nat} {f0 : Int} {f1 : Int} {f2 : List Bool} {f3 : List (List Int)} {α : Type} {d : Kd α} {e : Nat} {base : Nat} {ok : Nat → Prop} {v : Value} {xs : List α} (h : IsS44 w0 W g f0 f1 f2 f3) (ho : d.Q e W base ok v xs) (ht : e ≠ 44) : some g ≠ v.ownBlock := by
  obtain ⟨A2, c2, A3, c3, hb, hg, hr2, hr3⟩ := h
  exact Kd.Q_ne ho hb ht
theorem IsS44.apartS {w0 W : World} {g : Nat} {f0 : Int} {f1 : Int} {f2 : List Bool} {f3 : List (List Int)} {α : Type} {d : Kd α} {e : Nat} {base : Nat} {ok : Nat → Prop} {v : Value} {xs : List α} (h : IsS44 w0 W g f0 f1 f2 f3) (ho : d.S e W base ok v xs) (ht : ∀ q, q ∈ e :: d.E → q ≠ 44) : d.S e W base (fun k => ok k ∧ k ≠ g) v xs := by
  obtain ⟨A2, c2, A3, c3, hb, hg, hr2, hr3⟩ := h
  exact Kd.S_types ho hb ht
theorem IsS44.own_neS {w0 W : World} {g : Nat} {f0 : Int} {f1 : Int} {f2 : List Bool} {f3 : List (List Int)} {α : Type} {d : Kd α} {e : Nat} {base : Nat} {ok : Nat → Prop} {v : Value} {xs : List α} (h : IsS44 w0 W g f0 f1 f2 f3) (ho : d.S e W base ok v xs) (ht : e ≠ 44) : some g ≠ v.ownBlock := by
  obtain ⟨A2, c2, A3, c3, hb, hg, hr2, hr3⟩ := h
  exact Kd.S_ne ho hb ht
theorem IsS44.lt {w0 W : World} {g : Nat} {f0 : Int} {f1 : Int} {f2 : List Bool} {f3 : List (List Int)} (h : IsS44 w0 W g f0 f1 f2 f3) : g < W.heap.size := by
  obtain ⟨A2, c2, A3, c3, hb, hg, hr2, hr3⟩ := h
  exact blk_lt hb
theorem IsS44.ge {w0 W : World} {g : Nat} {f0 : Int} {f1 : Int} {f2 : List Bool} {f3 : List (List Int)} (h : IsS44 w0 W g f0 f1 f2 f3) : w0.heap.size ≤ g := by
  obtain ⟨A2, c2, A3, c3, hb, hg, hr2, hr3⟩ := h
  exact hg
theorem IsS44.ne_blk {w0 W : World} {g : Nat} {f0 : Int} {f1 : Int} {f2 : List Bool} {f3 : List (List Int)} {a : Nat} {cs : Array Value} {t : TypeId} {fr : Nat × Nat} (h : IsS44 w0 W g f0 f1 f2 f3) (hb2 : W.heap[a]? = some (.cells cs t fr)) (ht : t ≠ 44) : g ≠ a := by
  obtain ⟨A2, c2, A3, c3, hb, hg, hr2, hr3⟩ := h
  rintro rfl
  rw [hb] at hb2
  injection hb2 with hb2
  injection hb2 with _ ht2
  exact ht ht2.symm
theorem IsS44.far {w0 W : World} {g : Nat} {f0 : Int} {f1 : Int} {f2 : List Bool} {f3 : List (List Int)} {p : Addr} (h : IsS44 w0 W g f0 f1 f2 f3) (hne : g ≠ p.block) (u : Value) : IsS44 w0 (W.setCell p u) g f0 f1 f2 f3 := by
  obtain ⟨A2, c2, A3, c3, hb, hg, hr2, hr3⟩ := h
  exact ⟨A2, c2, A3, c3, blk_far hb hne u, hg, hr2, hr3⟩
theorem cellS44_0 {W : World} {g : Nat} {A2 : Option Addr} {c2 : Nat} {A3 : Option Addr} {c3 : Nat} {f0 : Int} {f1 : Int} {f2 : List Bool} {f3 : List (List Int)} (h : W.heap[g]? = some (.cells #[.int .i64 f0, .int .i64 f1, .slice A2 f2.length c2, .slice A3 f3.length c3] 44 (0, 0))) : W.cell? ⟨g, 0, none⟩ = some (.int .i64 f0) := (blk_cell h 0).trans rfl
theorem IsS44.set_0 {w0 W : World} {g : Nat} {f0 : Int} {f1 : Int} {f2 : List Bool} {f3 : List (List Int)} (h : IsS44 w0 W g f0 f1 f2 f3) (x : Int) : IsS44 w0 (W.setCell ⟨g, 0, none⟩ (.int .i64 x)) g x f1 f2 f3 := by
  obtain ⟨A2, c2, A3, c3, hb, hg, hr2, hr3⟩ := h
  exact ⟨A2, c2, A3, c3, by simpa using blk_set hb 0 (.int .i64 x), hg, hr2, hr3⟩
theorem cellS44_1 {W : World} {g : Nat} {A2 : Option Addr} {c2 : Nat} {A3 : Option Addr} {c3 : Nat} {f0 : Int} {f1 : Int} {f2 : List Bool} {f3 : List (List Int)} (h : W.heap[g]? = some (.cells #[.int .i64 f0, .int .i64 f1, .slice A2 f2.length c2, .slice A3 f3.length c3] 44 (0, 0))) : W.cell? ⟨g, 1, none⟩ = some (.int .i64 f1) := (blk_cell h 1).trans rfl
theorem IsS44.set_1 {w0 W : World} {g : Nat} {f0 : Int} {f1 : Int} {f2 : List Bool} {f3 : List (List Int)} (h : IsS44 w0 W g f0 f1 f2 f3) (x : Int) : IsS44 w0 (W.setCell ⟨g, 1, none⟩ (.int .i64 x)) g f0 x f2 f3 := by
  obtain ⟨A2, c2, A3, c3, hb, hg, hr2, hr3⟩ := h
  exact ⟨A2, c2, A3, c3, by simpa using blk_set hb 1 (.int .i64 x), hg, hr2, hr3⟩
theorem cellS44_2 {W : World} {g : Nat} {A2 : Option Addr} {c2 : Nat} {A3 : Option Addr} {c3 : Nat} {f0 : Int} {f1 : Int} {f2 : List Bool} {f3 : List (List Int)} (h : W.heap[g]? = some (.cells #[.int .i64 f0, .int .i64 f1, .slice A2 f2.length c2, .slice A3 f3.length c3] 44 (0, 0))) : W.cell? ⟨g, 2, none⟩ = some (.slice A2 f2.length c2) := (blk_cell h 2).trans rfl
theorem cellS44_3 {W : World} {g : Nat} {A2 : Option Addr} {c2 : Nat} {A3 : Option Addr} {c3 : Nat} {f0 : Int} {f1 : Int} {f2 : List Bool} {f3 : List (List Int)} (h : W.heap[g]? = some (.cells #[.int .i64 f0, .int .i64 f1, .slice A2 f2.length c2, .slice A3 f3.length c3] 44 (0, 0))) : W.cell? ⟨g, 3, none⟩ = some (.slice A3 f3.length c3) := (blk_cell h 3).trans rfl
theorem IsS44.new (w0 W : World) (A2 : Option Addr) (c2 : Nat) (A3 : Option Addr) (c3 : Nat) (f0 : Int) (f1 : Int) (f2 : List Bool) (f3 : List (List Int)) (hB : Below w0.heap.size w0 W) (hr2 : Kd.C Kd.bool w0 A2 f2.length f2) (hr3 : Kd.C (Kd.slice 2 (Kd.int .i64)) w0 A3 f3.length f3) : IsS44 w0 (W.alloc (.cells #[.int .i64 f0, .int .i64 f1, .slice A2 f2.length c2, .slice A3 f3.length c3] 44)) W.heap.size f0 f1 f2 f3 := ⟨A2, c2, A3, c3, by simpa using heap_alloc_new W _, hB.size, hr2, hr3⟩

/-- A relation that is read at some address. -/
def IsP44 (w0 W : World) (p0 : Addr) (f0 f1 : Int) (f2 : List Bool) (f3 : List (List Int)) : Prop := ∃ A2 c2, ∃ A3 c3, W.cell? p0 = some (.int .i64 f0) ∧ W.cell? ⟨p0.block, p0.off + 1, none⟩ = some (.int .i64 f1) ∧ W.cell? ⟨p0.block, p0.off + 2, none⟩ = some (.slice A2 f2.length c2) ∧ W.cell? ⟨p0.block, p0.off + 3, none⟩ = some (.slice A3 f3.length c3) ∧ Kd.C Kd.bool w0 A2 f2.length f2 ∧ Kd.C (Kd.slice 2 (Kd.int .i64)) w0 A3 f3.length f3
theorem IsP44.below {w0 W W1 : World} {p0 : Addr} {f0 f1 : Int} {f2 : List Bool} {f3 : List (List Int)} (h : IsP44 w0 W p0 f0 f1 f2 f3) (hb : Below W.heap.size W W1) : IsP44 w0 W1 p0 f0 f1 f2 f3 := by
  obtain ⟨A2, c2, A3, c3, h0, h1, h2, h3, h4⟩ := h
  exact ⟨A2, c2, A3, c3, pw_cell_below hb h0, pw_cell_below hb h1, pw_cell_below hb h2, pw_cell_below hb h3, h4⟩
theorem IsP44.drewN {w0 W : World} {p0 : Addr} {f0 f1 : Int} {f2 : List Bool} {f3 : List (List Int)} (h : IsP44 w0 W p0 f0 f1 f2 f3) (n : Nat) : IsP44 w0 (W.drewN n) p0 f0 f1 f2 f3 := h.below (pw_below_drewN (Below.refl _ _) n)
theorem IsP44.drew {w0 W : World} {p0 : Addr} {f0 f1 : Int} {f2 : List Bool} {f3 : List (List Int)} (h : IsP44 w0 W p0 f0 f1 f2 f3) : IsP44 w0 W.drew p0 f0 f1 f2 f3 := h.below (below_drew1 (Below.refl _ _))
theorem IsP44.alloc {w0 W : World} {p0 : Addr} {f0 f1 : Int} {f2 : List Bool} {f3 : List (List Int)} (h : IsP44 w0 W p0 f0 f1 f2 f3) (o : Obj) : IsP44 w0 (W.alloc o) p0 f0 f1 f2 f3 := h.below (below_alloc (Below.refl _ _) o)
/-! ### spec_l01Form: function 82 -/
mutual
def spec_l01Form.j0 : Nat → Int → Bool → Int → Int → List Bool → List (List Int) → Option (Bool × Int × Int)
  | 0, _, _, _, _, _, _ => none
  | k + 1, x3, x39, x1000, x1001, x1002, x1003 => if x39 = true then (some (false, x1000, x1001)) else (spec_l01Form.l0 k x3 0 x1000 x1001 x1002 x1003)
def spec_l01Form.l0 : Nat → Int → Int → Int → Int → List Bool → List (List Int) → Option (Bool × Int × Int)
  | 0, _, _, _, _, _, _ => none
  | k + 1, x3, x4, x1000, x1001, x1002, x1003 => if x4 < (x1003.length : Int) then (if 0 ≤ x4 then ((spec_l01Wide.f k x1000).bind fun t241 => (if ((rd_L4 x1003 x4).length : Int) = t241 then (spec_l01Form.l1 k x3 x4 0 x1000 x1001 x1002 x1003) else (some (false, x1000, x1001)))) else (none)) else (some (true, x1000, x1001))
def spec_l01Form.l1 : Nat → Int → Int → Int → Int → Int → List Bool → List (List Int) → Option (Bool × Int × Int)
  | 0, _, _, _, _, _, _, _ => none
  | k + 1, x3, x4, x5, x1000, x1001, x1002, x1003 => if 0 ≤ x4 then (if x4 < (x1003.length : Int) then (if x5 < ((rd_L4 x1003 x4).length : Int) then (if 0 ≤ x5 then ((spec_l00In.f (rd (rd_L4 x1003 x4) x5) 0 (wrap64 (x3 - 1))).bind fun t245 => (if t245 = true then (spec_l01Form.l1 k x3 x4 (wrap64 (x5 + 1)) x1000 x1001 x1002 x1003) else (some (false, x1000, x1001)))) else (none)) else (spec_l01Form.l0 k x3 (wrap64 (x4 + 1)) x1000 x1001 x1002 x1003)) else (none)) else (none)
end
def spec_l01Form.f (k : Nat) (s0_0 : Int) (s0_1 : Int) (s0_2 : List Bool) (s0_3 : List (List Int)) : Option (Bool × Int × Int) := (spec_l00In.f s0_0 1 3).bind fun t238 => (if t238 = true then (if (s0_2.length : Int) < 1 then (spec_l01Form.j0 k (s0_2.length : Int) true s0_0 s0_1 s0_2 s0_3) else ((spec_l00In.f s0_1 0 (wrap64 ((s0_2.length : Int) - 1))).bind fun t239 => (if t239 = true then (spec_l01Form.j0 k (s0_2.length : Int) ((s0_3.length : Int) != (s0_2.length : Int)) s0_0 s0_1 s0_2 s0_3) else (spec_l01Form.j0 k (s0_2.length : Int) true s0_0 s0_1 s0_2 s0_3)))) else (spec_l01Form.j0 k (s0_2.length : Int) true s0_0 s0_1 s0_2 s0_3))
theorem spec_l01Form.mono_l : ∀ k, (∀ y0 y1 y2 y3 y4 y5, LeO (spec_l01Form.j0 k y0 y1 y2 y3 y4 y5) (spec_l01Form.j0 (k + 1) y0 y1 y2 y3 y4 y5)) ∧ (∀ y0 y1 y2 y3 y4 y5, LeO (spec_l01Form.l0 k y0 y1 y2 y3 y4 y5) (spec_l01Form.l0 (k + 1) y0 y1 y2 y3 y4 y5)) ∧ (∀ y0 y1 y2 y3 y4 y5 y6, LeO (spec_l01Form.l1 k y0 y1 y2 y3 y4 y5 y6) (spec_l01Form.l1 (k + 1) y0 y1 y2 y3 y4 y5 y6))
  | 0 => ⟨fun _ _ _ _ _ _ r h => by simp [spec_l01Form.j0] at h, fun _ _ _ _ _ _ r h => by simp [spec_l01Form.l0] at h, fun _ _ _ _ _ _ _ r h => by simp [spec_l01Form.l1] at h⟩
  | k + 1 => by
    obtain ⟨ih0, ih1, ih2⟩ := spec_l01Form.mono_l k
    refine ⟨?_, ?_, ?_⟩
    · intro y0 y1 y2 y3 y4 y5
      unfold spec_l01Form.j0
      repeat' first
      | (with_reducible exact ih0 _ _ _ _ _ _)
      | (with_reducible exact ih1 _ _ _ _ _ _)
      | (with_reducible exact ih2 _ _ _ _ _ _ _)
      | (with_reducible exact spec_l01Wide.mono _ _)
      | (with_reducible exact LeO.refl _)
      | (with_reducible exact LeO.none _)
      | (with_reducible refine LeO.ite ?_ ?_)
      | (with_reducible refine LeO.bind ?_ (fun _ => ?_))
      | exact ih0 _ _ _ _ _ _
      | exact ih1 _ _ _ _ _ _
      | exact ih2 _ _ _ _ _ _ _
      | exact spec_l01Wide.mono _ _
      | exact LeO.none _
      | refine LeO.ite ?_ ?_
      | refine LeO.bind ?_ (fun _ => ?_)
    · intro y0 y1 y2 y3 y4 y5
      unfold spec_l01Form.l0
      repeat' first
      | (with_reducible exact ih0 _ _ _ _ _ _)
      | (with_reducible exact ih1 _ _ _ _ _ _)
      | (with_reducible exact ih2 _ _ _ _ _ _ _)
      | (with_reducible exact spec_l01Wide.mono _ _)
      | (with_reducible exact LeO.refl _)
      | (with_reducible exact LeO.none _)
      | (with_reducible refine LeO.ite ?_ ?_)
      | (with_reducible refine LeO.bind ?_ (fun _ => ?_))
      | exact ih0 _ _ _ _ _ _
      | exact ih1 _ _ _ _ _ _
      | exact ih2 _ _ _ _ _ _ _
      | exact spec_l01Wide.mono _ _
      | exact LeO.none _
      | refine LeO.ite ?_ ?_
      | refine LeO.bind ?_ (fun _ => ?_)
    · intro y0 y1 y2 y3 y4 y5 y6
      unfold spec_l01Form.l1
      repeat' first
      | (with_reducible exact ih0 _ _ _ _ _ _)
      | (with_reducible exact ih1 _ _ _ _ _ _)
      | (with_reducible exact ih2 _ _ _ _ _ _ _)
      | (with_reducible exact spec_l01Wide.mono _ _)
      | (with_reducible exact LeO.refl _)
      | (with_reducible exact LeO.none _)
      | (with_reducible refine LeO.ite ?_ ?_)
      | (with_reducible refine LeO.bind ?_ (fun _ => ?_))
      | exact ih0 _ _ _ _ _ _
      | exact ih1 _ _ _ _ _ _
      | exact ih2 _ _ _ _ _ _ _
      | exact spec_l01Wide.mono _ _
      | exact LeO.none _
      | refine LeO.ite ?_ ?_
      | refine LeO.bind ?_ (fun _ => ?_)
theorem spec_l01Form.mono : ∀ a0 a1 a2 a3 k, LeO (spec_l01Form.f k a0 a1 a2 a3) (spec_l01Form.f (k + 1) a0 a1 a2 a3) := by
  intro a0 a1 a2 a3 k
  obtain ⟨ih0, ih1, ih2⟩ := spec_l01Form.mono_l k
  unfold spec_l01Form.f
  repeat' first
      | (with_reducible exact ih0 _ _ _ _ _ _)
      | (with_reducible exact ih1 _ _ _ _ _ _)
      | (with_reducible exact ih2 _ _ _ _ _ _ _)
      | (with_reducible exact spec_l01Wide.mono _ _)
      | (with_reducible exact LeO.refl _)
      | (with_reducible exact LeO.none _)
      | (with_reducible refine LeO.ite ?_ ?_)
      | (with_reducible refine LeO.bind ?_ (fun _ => ?_))
      | exact ih0 _ _ _ _ _ _
      | exact ih1 _ _ _ _ _ _
      | exact ih2 _ _ _ _ _ _ _
      | exact spec_l01Wide.mono _ _
      | exact LeO.none _
      | refine LeO.ite ?_ ?_
      | refine LeO.bind ?_ (fun _ => ?_)
set_option maxHeartbeats 8000000 in
set_option maxRecDepth 100000 in
theorem spec_l01Form.calls (k : Nat) (g : Nat) (s0_0 : Int) (s0_1 : Int) (s0_2 : List Bool) (s0_3 : List (List Int)) (r1 : Bool) (r2 : Int) (r3 : Int) (w0 w : World) (hI : IsS44 w0 w g s0_0 s0_1 s0_2 s0_3) (hB : Below w0.heap.size w0 w) (h : spec_l01Form.f k s0_0 s0_1 s0_2 s0_3 = some (r1, r2, r3)) :
    Calls Try.prog 82 #[.pointer (some ⟨g, 0, none⟩)] w fun e w' => e = .returned (.bool r1) ∧ IsS44 w0 w' g r2 r3 s0_2 s0_3 ∧ Below w0.heap.size w0 w' ∧ KeepBut w w' g none := by
  have HI0 := Aside0.mk hI
  have HK := Aside0.mk (KeepBut.refl w g none)
  have HL := Aside0.mk hB.size
  clear hI
  have HW0 := Aside0.mk hB.size
  have HB := Aside0.mk hB
  clear hB
  have H : ((spec_l00In.f s0_0 1 3).bind fun t238 => (if t238 = true then (if (s0_2.length : Int) < 1 then (spec_l01Form.j0 k (s0_2.length : Int) true s0_0 s0_1 s0_2 s0_3) else ((spec_l00In.f s0_1 0 (wrap64 ((s0_2.length : Int) - 1))).bind fun t239 => (if t239 = true then (spec_l01Form.j0 k (s0_2.length : Int) ((s0_3.length : Int) != (s0_2.length : Int)) s0_0 s0_1 s0_2 s0_3) else (spec_l01Form.j0 k (s0_2.length : Int) true s0_0 s0_1 s0_2 s0_3)))) else (spec_l01Form.j0 k (s0_2.length : Int) true s0_0 s0_1 s0_2 s0_3))) = some (r1, r2, r3) := h
  clear h
  have HC2 := Aside0.mk H
  clear H
  obtain ⟨ASz3_2, cSz3_2, ASz3_3, cSz3_3, HGz3, hgz3, HSz3_2, HSz3_3⟩ := HI0.out
  have hcz3_0 := cellS44_0 HGz3
  have hcz3_1 := cellS44_1 HGz3
  have hcz3_2 := cellS44_2 HGz3
  have hcz3_3 := cellS44_3 HGz3
  have hfz3_0 := blk_frozen HGz3 0
  have hfz3_1 := blk_frozen HGz3 1
  clear HGz3 hgz3
  go_enter Try.func82, Try.ntmps82
  go_upto_region 2 with (fail)
  repeat (go_quiet (fail); go_upto_region 2 with (fail))
  go_cut [39] (fun v39 wc => ∃ (kq : Nat) (x39_1 : Bool), v39 = .bool x39_1 ∧ Aside0 (spec_l01Form.j0 kq (s0_2.length : Int) x39_1 s0_0 s0_1 s0_2 s0_3 = some (r1, r2, r3)) ∧ Aside0 (kq ≤ k) ∧ Aside0 (IsS44 w0 wc g s0_0 s0_1 s0_2 s0_3) ∧ Aside0 (KeepBut w wc g none) ∧ Aside0 (Below w0.heap.size w0 wc))
  case first =>
    have H := HC2.out
    clear HC2
    replace H := Option.bind_eq_some_iff.mp H
    obtain ⟨t238, A40, H⟩ := H
    replace H : (if t238 = true then (if (s0_2.length : Int) < 1 then (spec_l01Form.j0 k (s0_2.length : Int) true s0_0 s0_1 s0_2 s0_3) else ((spec_l00In.f s0_1 0 (wrap64 ((s0_2.length : Int) - 1))).bind fun t239 => (if t239 = true then (spec_l01Form.j0 k (s0_2.length : Int) ((s0_3.length : Int) != (s0_2.length : Int)) s0_0 s0_1 s0_2 s0_3) else (spec_l01Form.j0 k (s0_2.length : Int) true s0_0 s0_1 s0_2 s0_3)))) else (spec_l01Form.j0 k (s0_2.length : Int) true s0_0 s0_1 s0_2 s0_3)) = some (r1, r2, r3) := H
    have A4 := Aside0.mk A40
    clear A40
    by_cases c5 : t238 = true
    · subst c5
      have H1 : (if (s0_2.length : Int) < 1 then (spec_l01Form.j0 k (s0_2.length : Int) true s0_0 s0_1 s0_2 s0_3) else ((spec_l00In.f s0_1 0 (wrap64 ((s0_2.length : Int) - 1))).bind fun t239 => (if t239 = true then (spec_l01Form.j0 k (s0_2.length : Int) ((s0_3.length : Int) != (s0_2.length : Int)) s0_0 s0_1 s0_2 s0_3) else (spec_l01Form.j0 k (s0_2.length : Int) true s0_0 s0_1 s0_2 s0_3)))) = some (r1, r2, r3) := by rw [if_pos rfl] at H; exact H
      clear H
      have H := H1
      clear H1
      by_cases c6 : (s0_2.length : Int) < 1
      · rw [if_pos c6] at H
        have c6b0 : decide ((s0_2.length : Int) < 1) = true := decide_eq_true c6
        have c6b1 : decide (s0_2.length < 1) = true := decide_eq_true (by omega)
        clear c6
        (first | rw [c6b0] | (simp only [i64_w, i32_w]; rw [c6b0]) | skip)
        have H' := Aside0.mk H
        clear H
        obtain ⟨ASz7_2, cSz7_2, ASz7_3, cSz7_3, HGz7, hgz7, HSz7_2, HSz7_3⟩ := HI0.out
        have hcz7_0 := cellS44_0 HGz7
        have hcz7_1 := cellS44_1 HGz7
        have hcz7_2 := cellS44_2 HGz7
        have hcz7_3 := cellS44_3 HGz7
        have hfz7_0 := blk_frozen HGz7 0
        have hfz7_1 := blk_frozen HGz7 1
        clear HGz7 hgz7
        go_wp2_with (first | (go_at_call 43; (with_reducible refine (spec_l00In.calls s0_0 1 3 true _ A4.out).mono ?_); rintro e w' ⟨rfl, ⟨nd, rfl⟩⟩; (try first | exact ⟨rfl, _, World.drewN_drewN _ _ _⟩ | exact ⟨rfl, _, Eq.trans (World.drewN_drewN _ _ _) (congrArg (World.drewN _) (Nat.add_assoc _ _ _))⟩)))
        repeat (go_quiet (first | (go_at_call 43; (with_reducible refine (spec_l00In.calls s0_0 1 3 true _ A4.out).mono ?_); rintro e w' ⟨rfl, ⟨nd, rfl⟩⟩; (try first | exact ⟨rfl, _, World.drewN_drewN _ _ _⟩ | exact ⟨rfl, _, Eq.trans (World.drewN_drewN _ _ _) (congrArg (World.drewN _) (Nat.add_assoc _ _ _))⟩))); try go_wp2_with (first | (go_at_call 43; (with_reducible refine (spec_l00In.calls s0_0 1 3 true _ A4.out).mono ?_); rintro e w' ⟨rfl, ⟨nd, rfl⟩⟩; (try first | exact ⟨rfl, _, World.drewN_drewN _ _ _⟩ | exact ⟨rfl, _, Eq.trans (World.drewN_drewN _ _ _) (congrArg (World.drewN _) (Nat.add_assoc _ _ _))⟩))))
        go_meet
        case rel => exact ⟨_, (true), (by first | rfl | (simp; done) | (simp [*]; done)), H', ⟨by first | omega | exact Nat.le_refl _⟩, ⟨by repeat (first | (with_reducible first | exact HI0.out | apply IsS44.alloc | apply IsS44.drewN | apply IsS44.drew | apply IsS44.set_0 | apply IsS44.set_1) | exact HI0.out)⟩, ⟨by repeat (first | (with_reducible first | exact HK.out | apply KeepBut.set_ | apply keep_drewN | apply keep_drew | apply keep_alloc) | exact HK.out)⟩, ⟨by repeat (first | (with_reducible first | exact HB.out | apply below_alloc | apply pw_below_drewN | apply below_drew1 | refine below_set ?_ (IsS44.ge HI0.out)) | exact HB.out)⟩⟩
      · rw [if_neg c6] at H
        have c6b0 : decide ((s0_2.length : Int) < 1) = false := decide_eq_false c6
        have c6b1 : decide (s0_2.length < 1) = false := decide_eq_false (by omega)
        clear c6
        (first | rw [c6b0] | (simp only [i64_w, i32_w]; rw [c6b0]) | skip)
        replace H := Option.bind_eq_some_iff.mp H
        obtain ⟨t239, A80, H⟩ := H
        replace H : (if t239 = true then (spec_l01Form.j0 k (s0_2.length : Int) ((s0_3.length : Int) != (s0_2.length : Int)) s0_0 s0_1 s0_2 s0_3) else (spec_l01Form.j0 k (s0_2.length : Int) true s0_0 s0_1 s0_2 s0_3)) = some (r1, r2, r3) := H
        have A8 := Aside0.mk A80
        clear A80
        by_cases c9 : t239 = true
        · subst c9
          have H1 : (spec_l01Form.j0 k (s0_2.length : Int) ((s0_3.length : Int) != (s0_2.length : Int)) s0_0 s0_1 s0_2 s0_3) = some (r1, r2, r3) := by rw [if_pos rfl] at H; exact H
          clear H
          have H := H1
          clear H1
          have H' := Aside0.mk H
          clear H
          obtain ⟨ASz10_2, cSz10_2, ASz10_3, cSz10_3, HGz10, hgz10, HSz10_2, HSz10_3⟩ := HI0.out
          have hcz10_0 := cellS44_0 HGz10
          have hcz10_1 := cellS44_1 HGz10
          have hcz10_2 := cellS44_2 HGz10
          have hcz10_3 := cellS44_3 HGz10
          have hfz10_0 := blk_frozen HGz10 0
          have hfz10_1 := blk_frozen HGz10 1
          clear HGz10 hgz10
          go_wp2_with (first | (go_at_call 43; (with_reducible refine (spec_l00In.calls s0_0 1 3 true _ A4.out).mono ?_); rintro e w' ⟨rfl, ⟨nd, rfl⟩⟩; (try first | exact ⟨rfl, _, World.drewN_drewN _ _ _⟩ | exact ⟨rfl, _, Eq.trans (World.drewN_drewN _ _ _) (congrArg (World.drewN _) (Nat.add_assoc _ _ _))⟩)) | (go_at_call 43; (with_reducible refine (spec_l00In.calls s0_1 0 (wrap64 ((s0_2.length : Int) - 1)) true _ A8.out).mono ?_); rintro e w' ⟨rfl, ⟨nd, rfl⟩⟩; (try first | exact ⟨rfl, _, World.drewN_drewN _ _ _⟩ | exact ⟨rfl, _, Eq.trans (World.drewN_drewN _ _ _) (congrArg (World.drewN _) (Nat.add_assoc _ _ _))⟩)))
          repeat (go_quiet (first | (go_at_call 43; (with_reducible refine (spec_l00In.calls s0_0 1 3 true _ A4.out).mono ?_); rintro e w' ⟨rfl, ⟨nd, rfl⟩⟩; (try first | exact ⟨rfl, _, World.drewN_drewN _ _ _⟩ | exact ⟨rfl, _, Eq.trans (World.drewN_drewN _ _ _) (congrArg (World.drewN _) (Nat.add_assoc _ _ _))⟩)) | (go_at_call 43; (with_reducible refine (spec_l00In.calls s0_1 0 (wrap64 ((s0_2.length : Int) - 1)) true _ A8.out).mono ?_); rintro e w' ⟨rfl, ⟨nd, rfl⟩⟩; (try first | exact ⟨rfl, _, World.drewN_drewN _ _ _⟩ | exact ⟨rfl, _, Eq.trans (World.drewN_drewN _ _ _) (congrArg (World.drewN _) (Nat.add_assoc _ _ _))⟩))); try go_wp2_with (first | (go_at_call 43; (with_reducible refine (spec_l00In.calls s0_0 1 3 true _ A4.out).mono ?_); rintro e w' ⟨rfl, ⟨nd, rfl⟩⟩; (try first | exact ⟨rfl, _, World.drewN_drewN _ _ _⟩ | exact ⟨rfl, _, Eq.trans (World.drewN_drewN _ _ _) (congrArg (World.drewN _) (Nat.add_assoc _ _ _))⟩)) | (go_at_call 43; (with_reducible refine (spec_l00In.calls s0_1 0 (wrap64 ((s0_2.length : Int) - 1)) true _ A8.out).mono ?_); rintro e w' ⟨rfl, ⟨nd, rfl⟩⟩; (try first | exact ⟨rfl, _, World.drewN_drewN _ _ _⟩ | exact ⟨rfl, _, Eq.trans (World.drewN_drewN _ _ _) (congrArg (World.drewN _) (Nat.add_assoc _ _ _))⟩))))
          go_meet
          case rel => exact ⟨_, (((s0_3.length : Int) != (s0_2.length : Int))), (by first | rfl | (simp; done) | (simp [*]; done)), H', ⟨by first | omega | exact Nat.le_refl _⟩, ⟨by repeat (first | (with_reducible first | exact HI0.out | apply IsS44.alloc | apply IsS44.drewN | apply IsS44.drew | apply IsS44.set_0 | apply IsS44.set_1) | exact HI0.out)⟩, ⟨by repeat (first | (with_reducible first | exact HK.out | apply KeepBut.set_ | apply keep_drewN | apply keep_drew | apply keep_alloc) | exact HK.out)⟩, ⟨by repeat (first | (with_reducible first | exact HB.out | apply below_alloc | apply pw_below_drewN | apply below_drew1 | refine below_set ?_ (IsS44.ge HI0.out)) | exact HB.out)⟩⟩
        · replace c9 := Bool.eq_false_iff.mpr c9
          subst c9
          have H1 : (spec_l01Form.j0 k (s0_2.length : Int) true s0_0 s0_1 s0_2 s0_3) = some (r1, r2, r3) := by rw [if_neg (show ¬ (false = true) by decide)] at H; exact H
          clear H
          have H := H1
          clear H1
          have H' := Aside0.mk H
          clear H
          obtain ⟨ASz11_2, cSz11_2, ASz11_3, cSz11_3, HGz11, hgz11, HSz11_2, HSz11_3⟩ := HI0.out
          have hcz11_0 := cellS44_0 HGz11
          have hcz11_1 := cellS44_1 HGz11
          have hcz11_2 := cellS44_2 HGz11
          have hcz11_3 := cellS44_3 HGz11
          have hfz11_0 := blk_frozen HGz11 0
          have hfz11_1 := blk_frozen HGz11 1
          clear HGz11 hgz11
          go_wp2_with (first | (go_at_call 43; (with_reducible refine (spec_l00In.calls s0_0 1 3 true _ A4.out).mono ?_); rintro e w' ⟨rfl, ⟨nd, rfl⟩⟩; (try first | exact ⟨rfl, _, World.drewN_drewN _ _ _⟩ | exact ⟨rfl, _, Eq.trans (World.drewN_drewN _ _ _) (congrArg (World.drewN _) (Nat.add_assoc _ _ _))⟩)) | (go_at_call 43; (with_reducible refine (spec_l00In.calls s0_1 0 (wrap64 ((s0_2.length : Int) - 1)) false _ A8.out).mono ?_); rintro e w' ⟨rfl, ⟨nd, rfl⟩⟩; (try first | exact ⟨rfl, _, World.drewN_drewN _ _ _⟩ | exact ⟨rfl, _, Eq.trans (World.drewN_drewN _ _ _) (congrArg (World.drewN _) (Nat.add_assoc _ _ _))⟩)))
          repeat (go_quiet (first | (go_at_call 43; (with_reducible refine (spec_l00In.calls s0_0 1 3 true _ A4.out).mono ?_); rintro e w' ⟨rfl, ⟨nd, rfl⟩⟩; (try first | exact ⟨rfl, _, World.drewN_drewN _ _ _⟩ | exact ⟨rfl, _, Eq.trans (World.drewN_drewN _ _ _) (congrArg (World.drewN _) (Nat.add_assoc _ _ _))⟩)) | (go_at_call 43; (with_reducible refine (spec_l00In.calls s0_1 0 (wrap64 ((s0_2.length : Int) - 1)) false _ A8.out).mono ?_); rintro e w' ⟨rfl, ⟨nd, rfl⟩⟩; (try first | exact ⟨rfl, _, World.drewN_drewN _ _ _⟩ | exact ⟨rfl, _, Eq.trans (World.drewN_drewN _ _ _) (congrArg (World.drewN _) (Nat.add_assoc _ _ _))⟩))); try go_wp2_with (first | (go_at_call 43; (with_reducible refine (spec_l00In.calls s0_0 1 3 true _ A4.out).mono ?_); rintro e w' ⟨rfl, ⟨nd, rfl⟩⟩; (try first | exact ⟨rfl, _, World.drewN_drewN _ _ _⟩ | exact ⟨rfl, _, Eq.trans (World.drewN_drewN _ _ _) (congrArg (World.drewN _) (Nat.add_assoc _ _ _))⟩)) | (go_at_call 43; (with_reducible refine (spec_l00In.calls s0_1 0 (wrap64 ((s0_2.length : Int) - 1)) false _ A8.out).mono ?_); rintro e w' ⟨rfl, ⟨nd, rfl⟩⟩; (try first | exact ⟨rfl, _, World.drewN_drewN _ _ _⟩ | exact ⟨rfl, _, Eq.trans (World.drewN_drewN _ _ _) (congrArg (World.drewN _) (Nat.add_assoc _ _ _))⟩))))
          go_meet
          case rel => exact ⟨_, (true), (by first | rfl | (simp; done) | (simp [*]; done)), H', ⟨by first | omega | exact Nat.le_refl _⟩, ⟨by repeat (first | (with_reducible first | exact HI0.out | apply IsS44.alloc | apply IsS44.drewN | apply IsS44.drew | apply IsS44.set_0 | apply IsS44.set_1) | exact HI0.out)⟩, ⟨by repeat (first | (with_reducible first | exact HK.out | apply KeepBut.set_ | apply keep_drewN | apply keep_drew | apply keep_alloc) | exact HK.out)⟩, ⟨by repeat (first | (with_reducible first | exact HB.out | apply below_alloc | apply pw_below_drewN | apply below_drew1 | refine below_set ?_ (IsS44.ge HI0.out)) | exact HB.out)⟩⟩
    · replace c5 := Bool.eq_false_iff.mpr c5
      subst c5
      have H1 : (spec_l01Form.j0 k (s0_2.length : Int) true s0_0 s0_1 s0_2 s0_3) = some (r1, r2, r3) := by rw [if_neg (show ¬ (false = true) by decide)] at H; exact H
      clear H
      have H := H1
      clear H1
      have H' := Aside0.mk H
      clear H
      obtain ⟨ASz12_2, cSz12_2, ASz12_3, cSz12_3, HGz12, hgz12, HSz12_2, HSz12_3⟩ := HI0.out
      have hcz12_0 := cellS44_0 HGz12
      have hcz12_1 := cellS44_1 HGz12
      have hcz12_2 := cellS44_2 HGz12
      have hcz12_3 := cellS44_3 HGz12
      have hfz12_0 := blk_frozen HGz12 0
      have hfz12_1 := blk_frozen HGz12 1
      clear HGz12 hgz12
      go_wp2_with (first | (go_at_call 43; (with_reducible refine (spec_l00In.calls s0_0 1 3 false _ A4.out).mono ?_); rintro e w' ⟨rfl, ⟨nd, rfl⟩⟩; (try first | exact ⟨rfl, _, World.drewN_drewN _ _ _⟩ | exact ⟨rfl, _, Eq.trans (World.drewN_drewN _ _ _) (congrArg (World.drewN _) (Nat.add_assoc _ _ _))⟩)))
      repeat (go_quiet (first | (go_at_call 43; (with_reducible refine (spec_l00In.calls s0_0 1 3 false _ A4.out).mono ?_); rintro e w' ⟨rfl, ⟨nd, rfl⟩⟩; (try first | exact ⟨rfl, _, World.drewN_drewN _ _ _⟩ | exact ⟨rfl, _, Eq.trans (World.drewN_drewN _ _ _) (congrArg (World.drewN _) (Nat.add_assoc _ _ _))⟩))); try go_wp2_with (first | (go_at_call 43; (with_reducible refine (spec_l00In.calls s0_0 1 3 false _ A4.out).mono ?_); rintro e w' ⟨rfl, ⟨nd, rfl⟩⟩; (try first | exact ⟨rfl, _, World.drewN_drewN _ _ _⟩ | exact ⟨rfl, _, Eq.trans (World.drewN_drewN _ _ _) (congrArg (World.drewN _) (Nat.add_assoc _ _ _))⟩))))
      go_meet
      case rel => exact ⟨_, (true), (by first | rfl | (simp; done) | (simp [*]; done)), H', ⟨by first | omega | exact Nat.le_refl _⟩, ⟨by repeat (first | (with_reducible first | exact HI0.out | apply IsS44.alloc | apply IsS44.drewN | apply IsS44.drew | apply IsS44.set_0 | apply IsS44.set_1) | exact HI0.out)⟩, ⟨by repeat (first | (with_reducible first | exact HK.out | apply KeepBut.set_ | apply keep_drewN | apply keep_drew | apply keep_alloc) | exact HK.out)⟩, ⟨by repeat (first | (with_reducible first | exact HB.out | apply below_alloc | apply pw_below_drewN | apply below_drew1 | refine below_set ?_ (IsS44.ge HI0.out)) | exact HB.out)⟩⟩
  case rest =>
    clear HC2
    try clear p2
    try clear c5
    try clear c6
    try clear c6b0
    try clear c6b1
    try clear p6
    try clear c8
    try clear c9
    try clear hcz10_0
    try clear hcz10_1
    try clear hcz10_2
    try clear hcz10_3
    try clear hcz11_0
    try clear hcz11_1
    try clear hcz11_2
    try clear hcz11_3
    try clear hcz12_0
    try clear hcz12_1
    try clear hcz12_2
    try clear hcz12_3
    try clear hcz3_0
    try clear hcz3_1
    try clear hcz3_2
    try clear hcz3_3
    try clear hcz7_0
    try clear hcz7_1
    try clear hcz7_2
    try clear hcz7_3
    try clear hfz10_0
    try clear hfz10_1
    try clear hfz11_0
    try clear hfz11_1
    try clear hfz12_0
    try clear hfz12_1
    try clear hfz3_0
    try clear hfz3_1
    try clear hfz7_0
    try clear hfz7_1
    obtain ⟨kq, x39_1, rfl, HA, HJ1, HI0, HK, HB⟩ := hcut
    cases kq with
    | zero => exact absurd HA.out (by simp [spec_l01Form.j0])
    | succ kj1 =>
      have H := HA.out
      clear HA
      simp only [spec_l01Form.j0] at H
      by_cases c13 : x39_1 = true
      · subst c13
        have H1 : (some (false, s0_0, s0_1)) = some (r1, r2, r3) := by rw [if_pos rfl] at H; exact H
        clear H
        have H := H1
        clear H1
        simp only [Option.some.injEq, Prod.mk.injEq] at H
        obtain ⟨rfl, rfl, rfl⟩ := H
        go_wp2
        repeat (go_quiet (fail); try go_wp2)
        go_ret
        exact ⟨by first | rfl | (simp [errW_none, errW_some] <;> rfl) | (simp [*, errW_none, errW_some] <;> rfl), by repeat (first | (with_reducible first | exact HI0.out | apply IsS44.alloc | apply IsS44.drewN | apply IsS44.drew | apply IsS44.set_0 | apply IsS44.set_1) | exact HI0.out), by repeat (first | (with_reducible first | exact HB.out | apply below_alloc | apply pw_below_drewN | apply below_drew1 | refine below_set ?_ (IsS44.ge HI0.out)) | exact HB.out), by repeat (first | (with_reducible first | exact HK.out | apply KeepBut.set_ | apply keep_drewN | apply keep_drew | apply keep_alloc) | exact HK.out)⟩
      · replace c13 := Bool.eq_false_iff.mpr c13
        subst c13
        have H1 : (spec_l01Form.l0 kj1 (s0_2.length : Int) 0 s0_0 s0_1 s0_2 s0_3) = some (r1, r2, r3) := by rw [if_neg (show ¬ (false = true) by decide)] at H; exact H
        clear H
        have H := H1
        clear H1
        have H' := Aside0.mk H
        clear H
        go_wp2
        repeat (go_quiet (fail); try go_wp2)
        go_loopg [4] kj1 (fun kq v4 w' => ∃ (x4_2 : Int), v4 = .int .i64 x4_2 ∧ Aside0 (spec_l01Form.l0 kq (s0_2.length : Int) x4_2 s0_0 s0_1 s0_2 s0_3 = some (r1, r2, r3)) ∧ Aside0 (kq ≤ kj1) ∧ Aside0 (IsS44 w0 w' g s0_0 s0_1 s0_2 s0_3) ∧ Aside0 (KeepBut w w' g none) ∧ Aside0 (Below w0.heap.size w0 w'))
        case atStart => exact ⟨(0), (by first | rfl | (simp; done) | (simp [*]; done)), H', ⟨Nat.le_refl _⟩, ⟨by repeat (first | (with_reducible first | exact HI0.out | apply IsS44.alloc | apply IsS44.drewN | apply IsS44.drew | apply IsS44.set_0 | apply IsS44.set_1) | exact HI0.out)⟩, ⟨by repeat (first | (with_reducible first | exact HK.out | apply KeepBut.set_ | apply keep_drewN | apply keep_drew | apply keep_alloc) | exact HK.out)⟩, ⟨by repeat (first | (with_reducible first | exact HB.out | apply below_alloc | apply pw_below_drewN | apply below_drew1 | refine below_set ?_ (IsS44.ge HI0.out)) | exact HB.out)⟩⟩
        case round =>
          clear H'
          try clear c1
          try clear p2
          try clear c5
          try clear c6
          try clear c6b0
          try clear c6b1
          try clear p6
          try clear c8
          try clear c9
          try clear c13
          try clear hcz10_0
          try clear hcz10_1
          try clear hcz10_2
          try clear hcz10_3
          try clear hcz11_0
          try clear hcz11_1
          try clear hcz11_2
          try clear hcz11_3
          try clear hcz12_0
          try clear hcz12_1
          try clear hcz12_2
          try clear hcz12_3
          try clear hcz3_0
          try clear hcz3_1
          try clear hcz3_2
          try clear hcz3_3
          try clear hcz7_0
          try clear hcz7_1
          try clear hcz7_2
          try clear hcz7_3
          try clear hfz10_0
          try clear hfz10_1
          try clear hfz11_0
          try clear hfz11_1
          try clear hfz12_0
          try clear hfz12_1
          try clear hfz3_0
          try clear hfz3_1
          try clear hfz7_0
          try clear hfz7_1
          try clear p2
          try clear p6
          obtain ⟨x4_2, rfl, HA, HK2, HI0, HK, HB⟩ := hrel
          cases gk with
          | zero => exact absurd HA.out (by simp [spec_l01Form.l0])
          | succ k2 =>
            have H := HA.out
            clear HA
            simp only [spec_l01Form.l0] at H
            by_cases c14 : x4_2 < (s0_3.length : Int)
            · rw [if_pos c14] at H
              have c14b0 : decide (x4_2 < (s0_3.length : Int)) = true := decide_eq_true c14
              clear c14
              by_cases c15 : 0 ≤ x4_2
              · rw [if_pos c15] at H
                have c15b0 : decide (0 ≤ x4_2) = true := decide_eq_true c15
                clear c15
                replace H := Option.bind_eq_some_iff.mp H
                obtain ⟨t241, A160, H⟩ := H
                replace H : (if ((rd_L4 s0_3 x4_2).length : Int) = t241 then (spec_l01Form.l1 k2 (s0_2.length : Int) x4_2 0 s0_0 s0_1 s0_2 s0_3) else (some (false, s0_0, s0_1))) = some (r1, r2, r3) := H
                have A16 := Aside0.mk A160
                clear A160
                by_cases c17 : ((rd_L4 s0_3 x4_2).length : Int) = t241
                · rw [if_pos c17] at H
                  have c17b0 : (((rd_L4 s0_3 x4_2).length : Int) == t241) = true := beq_iff_eq.mpr c17
                  have c17b1 : (((rd_L4 s0_3 x4_2).length : Int) != t241) = false := bne_eq_false_iff_eq.mpr c17
                  clear c17
                  have H' := Aside0.mk H
                  clear H
                  obtain ⟨ASz18_2, cSz18_2, ASz18_3, cSz18_3, HGz18, hgz18, HSz18_2, HSz18_3⟩ := HI0.out
                  have hcz18_0 := cellS44_0 HGz18
                  have hcz18_1 := cellS44_1 HGz18
                  have hcz18_2 := cellS44_2 HGz18
                  have hcz18_3 := cellS44_3 HGz18
                  have hfz18_0 := blk_frozen HGz18 0
                  have hfz18_1 := blk_frozen HGz18 1
                  clear HGz18 hgz18
                  have p240 : 0 ≤ (x4_2 : Int) := of_decide_eq_true (by first | (with_reducible assumption) | assumption)
                  have q240 : x4_2 < (s0_3.length : Int) := of_decide_eq_true (by first | (with_reducible assumption) | assumption)
                  obtain ⟨ad240, A240_0, c240_0, e240, hx240_0, hl240_0, hi240_0⟩ := at_L4 HSz18_3 x4_2 p240 q240
                  cases e240
                  replace hx240_0 := pw_cell_below HB.out hx240_0
                  have HR240_0 := Aside0.mk hi240_0
                  have HC240_0 := Aside0.mk hl240_0
                  clear hi240_0 hl240_0
                  replace p240 := eq_true p240
                  replace q240 := eq_true q240
                  go_wp2_with (first | (go_at_call 45; (with_reducible refine (spec_l01Wide.calls k2 s0_0 t241 _ A16.out).mono ?_); rintro e w' ⟨rfl, ⟨nd, rfl⟩⟩; (try first | exact ⟨rfl, _, World.drewN_drewN _ _ _⟩ | exact ⟨rfl, _, Eq.trans (World.drewN_drewN _ _ _) (congrArg (World.drewN _) (Nat.add_assoc _ _ _))⟩)))
                  repeat (go_quiet (first | (go_at_call 45; (with_reducible refine (spec_l01Wide.calls k2 s0_0 t241 _ A16.out).mono ?_); rintro e w' ⟨rfl, ⟨nd, rfl⟩⟩; (try first | exact ⟨rfl, _, World.drewN_drewN _ _ _⟩ | exact ⟨rfl, _, Eq.trans (World.drewN_drewN _ _ _) (congrArg (World.drewN _) (Nat.add_assoc _ _ _))⟩))); try go_wp2_with (first | (go_at_call 45; (with_reducible refine (spec_l01Wide.calls k2 s0_0 t241 _ A16.out).mono ?_); rintro e w' ⟨rfl, ⟨nd, rfl⟩⟩; (try first | exact ⟨rfl, _, World.drewN_drewN _ _ _⟩ | exact ⟨rfl, _, Eq.trans (World.drewN_drewN _ _ _) (congrArg (World.drewN _) (Nat.add_assoc _ _ _))⟩))))
                  go_loopg [5] k2 (fun kq v5 w' => ∃ (x5_3 : Int), v5 = .int .i64 x5_3 ∧ Aside0 (spec_l01Form.l1 kq (s0_2.length : Int) x4_2 x5_3 s0_0 s0_1 s0_2 s0_3 = some (r1, r2, r3)) ∧ Aside0 (kq ≤ k2) ∧ Aside0 (Kd.C (Kd.int .i64) w' A240_0 (rd_L4 s0_3 x4_2).length (rd_L4 s0_3 x4_2)) ∧ Aside0 (IsS44 w0 w' g s0_0 s0_1 s0_2 s0_3) ∧ Aside0 (KeepBut w w' g none) ∧ Aside0 (Below w0.heap.size w0 w'))
                  case atStart => exact ⟨(0), (by first | rfl | (simp; done) | (simp [*]; done)), H', ⟨Nat.le_refl _⟩, ⟨by repeat (first | (with_reducible exact HR240_0.out) | (with_reducible exact Kd.C_below HR240_0.out HB.out) | (with_reducible refine Kd.C_alloc ?_ _) | (with_reducible refine Kd.C_drewN ?_ _) | (with_reducible refine Kd.C_drew ?_) | exact HR240_0.out)⟩, ⟨by repeat (first | (with_reducible first | exact HI0.out | apply IsS44.alloc | apply IsS44.drewN | apply IsS44.drew | apply IsS44.set_0 | apply IsS44.set_1) | exact HI0.out)⟩, ⟨by repeat (first | (with_reducible first | exact HK.out | apply KeepBut.set_ | apply keep_drewN | apply keep_drew | apply keep_alloc) | exact HK.out)⟩, ⟨by repeat (first | (with_reducible first | exact HB.out | apply below_alloc | apply pw_below_drewN | apply below_drew1 | refine below_set ?_ (IsS44.ge HI0.out)) | exact HB.out)⟩⟩
                  case round =>
                    clear H'
                    try clear c1
                    try clear c2
                    try clear p2
                    try clear q2
                    try clear hx2
                    try clear c5
                    try clear c6
                    try clear c6b0
                    try clear c6b1
                    try clear p6
                    try clear c8
                    try clear c9
                    try clear c13
                    try clear c14
                    try clear c14b0
                    try clear c15
                    try clear c15b0
                    try clear c17
                    try clear c17b0
                    try clear c17b1
                    try clear hcz10_0
                    try clear hcz10_1
                    try clear hcz10_2
                    try clear hcz10_3
                    try clear hcz11_0
                    try clear hcz11_1
                    try clear hcz11_2
                    try clear hcz11_3
                    try clear hcz12_0
                    try clear hcz12_1
                    try clear hcz12_2
                    try clear hcz12_3
                    try clear hcz18_0
                    try clear hcz18_1
                    try clear hcz18_2
                    try clear hcz18_3
                    try clear hcz3_0
                    try clear hcz3_1
                    try clear hcz3_2
                    try clear hcz3_3
                    try clear hcz7_0
                    try clear hcz7_1
                    try clear hcz7_2
                    try clear hcz7_3
                    try clear hfz10_0
                    try clear hfz10_1
                    try clear hfz11_0
                    try clear hfz11_1
                    try clear hfz12_0
                    try clear hfz12_1
                    try clear hfz18_0
                    try clear hfz18_1
                    try clear hfz3_0
                    try clear hfz3_1
                    try clear hfz7_0
                    try clear hfz7_1
                    try clear hx240_0
                    try clear p2
                    try clear p240
                    try clear p6
                    try clear q240
                    obtain ⟨x5_3, rfl, HA, HK3, HR240_0, HI0, HK, HB⟩ := hrel
                    cases gk with
                    | zero => exact absurd HA.out (by simp [spec_l01Form.l1])
                    | succ k3 =>
                      have H := HA.out
                      clear HA
                      simp only [spec_l01Form.l1] at H
                      by_cases c19 : 0 ≤ x4_2
                      · rw [if_pos c19] at H
                        have c19b0 : decide (0 ≤ x4_2) = true := decide_eq_true c19
                        clear c19
                        by_cases c20 : x4_2 < (s0_3.length : Int)
                        · rw [if_pos c20] at H
                          have c20b0 : decide (x4_2 < (s0_3.length : Int)) = true := decide_eq_true c20
                          clear c20
                          by_cases c21 : x5_3 < ((rd_L4 s0_3 x4_2).length : Int)
                          · rw [if_pos c21] at H
                            have c21b0 : decide (x5_3 < ((rd_L4 s0_3 x4_2).length : Int)) = true := decide_eq_true c21
                            clear c21
                            by_cases c22 : 0 ≤ x5_3
                            · rw [if_pos c22] at H
                              have c22b0 : decide (0 ≤ x5_3) = true := decide_eq_true c22
                              clear c22
                              replace H := Option.bind_eq_some_iff.mp H
                              obtain ⟨t245, A230, H⟩ := H
                              replace H : (if t245 = true then (spec_l01Form.l1 k3 (s0_2.length : Int) x4_2 (wrap64 (x5_3 + 1)) s0_0 s0_1 s0_2 s0_3) else (some (false, s0_0, s0_1))) = some (r1, r2, r3) := H
                              have A23 := Aside0.mk A230
                              clear A230
                              by_cases c24 : t245 = true
                              · subst c24
                                have H1 : (spec_l01Form.l1 k3 (s0_2.length : Int) x4_2 (wrap64 (x5_3 + 1)) s0_0 s0_1 s0_2 s0_3) = some (r1, r2, r3) := by rw [if_pos rfl] at H; exact H
                                clear H
                                have H := H1
                                clear H1
                                have H' := Aside0.mk H
                                clear H
                                obtain ⟨ASz25_2, cSz25_2, ASz25_3, cSz25_3, HGz25, hgz25, HSz25_2, HSz25_3⟩ := HI0.out
                                have hcz25_0 := cellS44_0 HGz25
                                have hcz25_1 := cellS44_1 HGz25
                                have hcz25_2 := cellS44_2 HGz25
                                have hcz25_3 := cellS44_3 HGz25
                                have hfz25_0 := blk_frozen HGz25 0
                                have hfz25_1 := blk_frozen HGz25 1
                                clear HGz25 hgz25
                                have p242 : 0 ≤ (x4_2 : Int) := of_decide_eq_true (by first | (with_reducible assumption) | assumption)
                                have q242 : x4_2 < (s0_3.length : Int) := of_decide_eq_true (by first | (with_reducible assumption) | assumption)
                                obtain ⟨ad242, A242_0, c242_0, e242, hx242_0, hl242_0, hi242_0⟩ := at_L4 HSz25_3 x4_2 p242 q242
                                cases e242
                                replace hx242_0 := pw_cell_below HB.out hx242_0
                                have HR242_0 := Aside0.mk hi242_0
                                have HC242_0 := Aside0.mk hl242_0
                                clear hi242_0 hl242_0
                                replace p242 := eq_true p242
                                replace q242 := eq_true q242
                                have p243 : 0 ≤ (x4_2 : Int) := of_decide_eq_true (by first | (with_reducible assumption) | assumption)
                                have q243 : x4_2 < (s0_3.length : Int) := of_decide_eq_true (by first | (with_reducible assumption) | assumption)
                                obtain ⟨ad243, A243_0, c243_0, e243, hx243_0, hl243_0, hi243_0⟩ := at_L4 HSz25_3 x4_2 p243 q243
                                obtain rfl : ad242 = ad243 := (by injection e243)
                                replace hx243_0 := pw_cell_below HB.out hx243_0
                                try (have hxe_ := hx242_0.symm.trans hx243_0; injection hxe_ with hxe_; injection hxe_ with hA_ hl_ hc_; subst hA_; subst hc_)
                                have HR243_0 := Aside0.mk hi243_0
                                have HC243_0 := Aside0.mk hl243_0
                                clear hi243_0 hl243_0
                                replace p243 := eq_true p243
                                replace q243 := eq_true q243
                                have p244 : 0 ≤ (x5_3 : Int) := of_decide_eq_true (by first | (with_reducible assumption) | assumption)
                                have q244 : x5_3 < ((rd_L4 s0_3 x4_2).length : Int) := of_decide_eq_true (by first | (with_reducible assumption) | assumption)
                                obtain ⟨ad244, e244, hx244_0⟩ := Kd.at_int HR243_0.out x5_3 p244 q244
                                cases e244
                                replace hx244_0 := (by first | exact keep_cell HK.out hx244_0 (by first | (rw [add_block]; exact hf243_0 _ rfl (by omega)) | exact hf243_0 _ rfl (by omega) | exact hf243_0 ad244 rfl (by omega)) | exact pw_cell_below HB.out hx244_0)
                                replace p244 := eq_true p244
                                replace q244 := eq_true q244
                                go_wp2_with (first | (go_at_call 43; (with_reducible refine (spec_l00In.calls (rd (rd_L4 s0_3 x4_2) x5_3) 0 (wrap64 ((s0_2.length : Int) - 1)) true _ A23.out).mono ?_); rintro e w' ⟨rfl, ⟨nd, rfl⟩⟩; (try first | exact ⟨rfl, _, World.drewN_drewN _ _ _⟩ | exact ⟨rfl, _, Eq.trans (World.drewN_drewN _ _ _) (congrArg (World.drewN _) (Nat.add_assoc _ _ _))⟩)))
                                repeat (go_quiet (first | (go_at_call 43; (with_reducible refine (spec_l00In.calls (rd (rd_L4 s0_3 x4_2) x5_3) 0 (wrap64 ((s0_2.length : Int) - 1)) true _ A23.out).mono ?_); rintro e w' ⟨rfl, ⟨nd, rfl⟩⟩; (try first | exact ⟨rfl, _, World.drewN_drewN _ _ _⟩ | exact ⟨rfl, _, Eq.trans (World.drewN_drewN _ _ _) (congrArg (World.drewN _) (Nat.add_assoc _ _ _))⟩))); try go_wp2_with (first | (go_at_call 43; (with_reducible refine (spec_l00In.calls (rd (rd_L4 s0_3 x4_2) x5_3) 0 (wrap64 ((s0_2.length : Int) - 1)) true _ A23.out).mono ?_); rintro e w' ⟨rfl, ⟨nd, rfl⟩⟩; (try first | exact ⟨rfl, _, World.drewN_drewN _ _ _⟩ | exact ⟨rfl, _, Eq.trans (World.drewN_drewN _ _ _) (congrArg (World.drewN _) (Nat.add_assoc _ _ _))⟩))))
                                go_roundg k3
                                case measure => have := HJ1.out; have := HK2.out; have := HK3.out; omega
                                case rel => exact ⟨(wrap64 (x5_3 + 1)), (by first | rfl | (simp; done) | (simp [*]; done)), H', ⟨by have := HJ1.out; have := HK2.out; have := HK3.out; omega⟩, ⟨by repeat (first | (with_reducible exact HR240_0.out) | (with_reducible exact Kd.C_below HR240_0.out HB.out) | (with_reducible refine Kd.C_alloc ?_ _) | (with_reducible refine Kd.C_drewN ?_ _) | (with_reducible refine Kd.C_drew ?_) | exact HR240_0.out)⟩, ⟨by repeat (first | (with_reducible first | exact HI0.out | apply IsS44.alloc | apply IsS44.drewN | apply IsS44.drew | apply IsS44.set_0 | apply IsS44.set_1) | exact HI0.out)⟩, ⟨by repeat (first | (with_reducible first | exact HK.out | apply KeepBut.set_ | apply keep_drewN | apply keep_drew | apply keep_alloc) | exact HK.out)⟩, ⟨by repeat (first | (with_reducible first | exact HB.out | apply below_alloc | apply pw_below_drewN | apply below_drew1 | refine below_set ?_ (IsS44.ge HI0.out)) | exact HB.out)⟩⟩
                              · replace c24 := Bool.eq_false_iff.mpr c24
                                subst c24
                                have H1 : (some (false, s0_0, s0_1)) = some (r1, r2, r3) := by rw [if_neg (show ¬ (false = true) by decide)] at H; exact H
                                clear H
                                have H := H1
                                clear H1
                                simp only [Option.some.injEq, Prod.mk.injEq] at H
                                obtain ⟨rfl, rfl, rfl⟩ := H
                                obtain ⟨ASz26_2, cSz26_2, ASz26_3, cSz26_3, HGz26, hgz26, HSz26_2, HSz26_3⟩ := HI0.out
                                have hcz26_0 := cellS44_0 HGz26
                                have hcz26_1 := cellS44_1 HGz26
                                have hcz26_2 := cellS44_2 HGz26
                                have hcz26_3 := cellS44_3 HGz26
                                have hfz26_0 := blk_frozen HGz26 0
                                have hfz26_1 := blk_frozen HGz26 1
                                clear HGz26 hgz26
                                have p242 : 0 ≤ (x4_2 : Int) := of_decide_eq_true (by first | (with_reducible assumption) | assumption)
                                have q242 : x4_2 < (s0_3.length : Int) := of_decide_eq_true (by first | (with_reducible assumption) | assumption)
                                obtain ⟨ad242, A242_0, c242_0, e242, hx242_0, hl242_0, hi242_0⟩ := at_L4 HSz26_3 x4_2 p242 q242
                                cases e242
                                replace hx242_0 := pw_cell_below HB.out hx242_0
                                have HR242_0 := Aside0.mk hi242_0
                                have HC242_0 := Aside0.mk hl242_0
                                clear hi242_0 hl242_0
                                replace p242 := eq_true p242
                                replace q242 := eq_true q242
                                have p243 : 0 ≤ (x4_2 : Int) := of_decide_eq_true (by first | (with_reducible assumption) | assumption)
                                have q243 : x4_2 < (s0_3.length : Int) := of_decide_eq_true (by first | (with_reducible assumption) | assumption)
                                obtain ⟨ad243, A243_0, c243_0, e243, hx243_0, hl243_0, hi243_0⟩ := at_L4 HSz26_3 x4_2 p243 q243
                                obtain rfl : ad242 = ad243 := (by injection e243)
                                replace hx243_0 := pw_cell_below HB.out hx243_0
                                try (have hxe_ := hx242_0.symm.trans hx243_0; injection hxe_ with hxe_; injection hxe_ with hA_ hl_ hc_; subst hA_; subst hc_)
                                have HR243_0 := Aside0.mk hi243_0
                                have HC243_0 := Aside0.mk hl243_0
                                clear hi243_0 hl243_0
                                replace p243 := eq_true p243
                                replace q243 := eq_true q243
                                have p244 : 0 ≤ (x5_3 : Int) := of_decide_eq_true (by first | (with_reducible assumption) | assumption)
                                have q244 : x5_3 < ((rd_L4 s0_3 x4_2).length : Int) := of_decide_eq_true (by first | (with_reducible assumption) | assumption)
                                obtain ⟨ad244, e244, hx244_0⟩ := Kd.at_int HR243_0.out x5_3 p244 q244
                                cases e244
                                replace hx244_0 := (by first | exact keep_cell HK.out hx244_0 (by first | (rw [add_block]; exact hf243_0 _ rfl (by omega)) | exact hf243_0 _ rfl (by omega) | exact hf243_0 ad244 rfl (by omega)) | exact pw_cell_below HB.out hx244_0)
                                replace p244 := eq_true p244
                                replace q244 := eq_true q244
                                go_wp2_with (first | (go_at_call 43; (with_reducible refine (spec_l00In.calls (rd (rd_L4 s0_3 x4_2) x5_3) 0 (wrap64 ((s0_2.length : Int) - 1)) false _ A23.out).mono ?_); rintro e w' ⟨rfl, ⟨nd, rfl⟩⟩; (try first | exact ⟨rfl, _, World.drewN_drewN _ _ _⟩ | exact ⟨rfl, _, Eq.trans (World.drewN_drewN _ _ _) (congrArg (World.drewN _) (Nat.add_assoc _ _ _))⟩)))
                                repeat (go_quiet (first | (go_at_call 43; (with_reducible refine (spec_l00In.calls (rd (rd_L4 s0_3 x4_2) x5_3) 0 (wrap64 ((s0_2.length : Int) - 1)) false _ A23.out).mono ?_); rintro e w' ⟨rfl, ⟨nd, rfl⟩⟩; (try first | exact ⟨rfl, _, World.drewN_drewN _ _ _⟩ | exact ⟨rfl, _, Eq.trans (World.drewN_drewN _ _ _) (congrArg (World.drewN _) (Nat.add_assoc _ _ _))⟩))); try go_wp2_with (first | (go_at_call 43; (with_reducible refine (spec_l00In.calls (rd (rd_L4 s0_3 x4_2) x5_3) 0 (wrap64 ((s0_2.length : Int) - 1)) false _ A23.out).mono ?_); rintro e w' ⟨rfl, ⟨nd, rfl⟩⟩; (try first | exact ⟨rfl, _, World.drewN_drewN _ _ _⟩ | exact ⟨rfl, _, Eq.trans (World.drewN_drewN _ _ _) (congrArg (World.drewN _) (Nat.add_assoc _ _ _))⟩))))
                                go_ret
                                exact ⟨by first | rfl | (simp [errW_none, errW_some] <;> rfl) | (simp [*, errW_none, errW_some] <;> rfl), by repeat (first | (with_reducible first | exact HI0.out | apply IsS44.alloc | apply IsS44.drewN | apply IsS44.drew | apply IsS44.set_0 | apply IsS44.set_1) | exact HI0.out), by repeat (first | (with_reducible first | exact HB.out | apply below_alloc | apply pw_below_drewN | apply below_drew1 | refine below_set ?_ (IsS44.ge HI0.out)) | exact HB.out), by repeat (first | (with_reducible first | exact HK.out | apply KeepBut.set_ | apply keep_drewN | apply keep_drew | apply keep_alloc) | exact HK.out)⟩
                            · rw [if_neg c22] at H
                              exact absurd H (by simp)
                          · rw [if_neg c21] at H
                            have c21b0 : decide (x5_3 < ((rd_L4 s0_3 x4_2).length : Int)) = false := decide_eq_false c21
                            clear c21
                            have H' := Aside0.mk H
                            clear H
                            obtain ⟨ASz27_2, cSz27_2, ASz27_3, cSz27_3, HGz27, hgz27, HSz27_2, HSz27_3⟩ := HI0.out
                            have hcz27_0 := cellS44_0 HGz27
                            have hcz27_1 := cellS44_1 HGz27
                            have hcz27_2 := cellS44_2 HGz27
                            have hcz27_3 := cellS44_3 HGz27
                            have hfz27_0 := blk_frozen HGz27 0
                            have hfz27_1 := blk_frozen HGz27 1
                            clear HGz27 hgz27
                            have p242 : 0 ≤ (x4_2 : Int) := of_decide_eq_true (by first | (with_reducible assumption) | assumption)
                            have q242 : x4_2 < (s0_3.length : Int) := of_decide_eq_true (by first | (with_reducible assumption) | assumption)
                            obtain ⟨ad242, A242_0, c242_0, e242, hx242_0, hl242_0, hi242_0⟩ := at_L4 HSz27_3 x4_2 p242 q242
                            cases e242
                            replace hx242_0 := pw_cell_below HB.out hx242_0
                            have HR242_0 := Aside0.mk hi242_0
                            have HC242_0 := Aside0.mk hl242_0
                            clear hi242_0 hl242_0
                            replace p242 := eq_true p242
                            replace q242 := eq_true q242
                            go_wp2
                            repeat (go_quiet (fail); try go_wp2)
                            go_roundg k3
                            case measure => have := HJ1.out; have := HK2.out; have := HK3.out; omega
                            case rel => exact ⟨(wrap64 (x4_2 + 1)), (by first | rfl | (simp; done) | (simp [*]; done)), H', ⟨by have := HJ1.out; have := HK2.out; have := HK3.out; omega⟩, ⟨by repeat (first | (with_reducible first | exact HI0.out | apply IsS44.alloc | apply IsS44.drewN | apply IsS44.drew | apply IsS44.set_0 | apply IsS44.set_1) | exact HI0.out)⟩, ⟨by repeat (first | (with_reducible first | exact HK.out | apply KeepBut.set_ | apply keep_drewN | apply keep_drew | apply keep_alloc) | exact HK.out)⟩, ⟨by repeat (first | (with_reducible first | exact HB.out | apply below_alloc | apply pw_below_drewN | apply below_drew1 | refine below_set ?_ (IsS44.ge HI0.out)) | exact HB.out)⟩⟩
                        · rw [if_neg c20] at H
                          exact absurd H (by simp)
                      · rw [if_neg c19] at H
                        exact absurd H (by simp)
                · rw [if_neg c17] at H
                  have c17b0 : (((rd_L4 s0_3 x4_2).length : Int) == t241) = false := beq_eq_false_iff_ne.mpr c17
                  have c17b1 : (((rd_L4 s0_3 x4_2).length : Int) != t241) = true := bne_iff_ne.mpr c17
                  simp only [Option.some.injEq, Prod.mk.injEq] at H
                  obtain ⟨rfl, rfl, rfl⟩ := H
                  obtain ⟨ASz28_2, cSz28_2, ASz28_3, cSz28_3, HGz28, hgz28, HSz28_2, HSz28_3⟩ := HI0.out
                  have hcz28_0 := cellS44_0 HGz28
                  have hcz28_1 := cellS44_1 HGz28
                  have hcz28_2 := cellS44_2 HGz28
                  have hcz28_3 := cellS44_3 HGz28
                  have hfz28_0 := blk_frozen HGz28 0
                  have hfz28_1 := blk_frozen HGz28 1
                  clear HGz28 hgz28
                  have p240 : 0 ≤ (x4_2 : Int) := of_decide_eq_true (by first | (with_reducible assumption) | assumption)
                  have q240 : x4_2 < (s0_3.length : Int) := of_decide_eq_true (by first | (with_reducible assumption) | assumption)
                  obtain ⟨ad240, A240_0, c240_0, e240, hx240_0, hl240_0, hi240_0⟩ := at_L4 HSz28_3 x4_2 p240 q240
                  cases e240
                  replace hx240_0 := pw_cell_below HB.out hx240_0
                  have HR240_0 := Aside0.mk hi240_0
                  have HC240_0 := Aside0.mk hl240_0
                  clear hi240_0 hl240_0
                  replace p240 := eq_true p240
                  replace q240 := eq_true q240
                  go_wp2_with (first | (go_at_call 45; (with_reducible refine (spec_l01Wide.calls k2 s0_0 t241 _ A16.out).mono ?_); rintro e w' ⟨rfl, ⟨nd, rfl⟩⟩; (try first | exact ⟨rfl, _, World.drewN_drewN _ _ _⟩ | exact ⟨rfl, _, Eq.trans (World.drewN_drewN _ _ _) (congrArg (World.drewN _) (Nat.add_assoc _ _ _))⟩)))
                  repeat (go_quiet (first | (go_at_call 45; (with_reducible refine (spec_l01Wide.calls k2 s0_0 t241 _ A16.out).mono ?_); rintro e w' ⟨rfl, ⟨nd, rfl⟩⟩; (try first | exact ⟨rfl, _, World.drewN_drewN _ _ _⟩ | exact ⟨rfl, _, Eq.trans (World.drewN_drewN _ _ _) (congrArg (World.drewN _) (Nat.add_assoc _ _ _))⟩))); try go_wp2_with (first | (go_at_call 45; (with_reducible refine (spec_l01Wide.calls k2 s0_0 t241 _ A16.out).mono ?_); rintro e w' ⟨rfl, ⟨nd, rfl⟩⟩; (try first | exact ⟨rfl, _, World.drewN_drewN _ _ _⟩ | exact ⟨rfl, _, Eq.trans (World.drewN_drewN _ _ _) (congrArg (World.drewN _) (Nat.add_assoc _ _ _))⟩))))
                  go_ret
                  exact ⟨by first | rfl | (simp [errW_none, errW_some] <;> rfl) | (simp [*, errW_none, errW_some] <;> rfl), by repeat (first | (with_reducible first | exact HI0.out | apply IsS44.alloc | apply IsS44.drewN | apply IsS44.drew | apply IsS44.set_0 | apply IsS44.set_1) | exact HI0.out), by repeat (first | (with_reducible first | exact HB.out | apply below_alloc | apply pw_below_drewN | apply below_drew1 | refine below_set ?_ (IsS44.ge HI0.out)) | exact HB.out), by repeat (first | (with_reducible first | exact HK.out | apply KeepBut.set_ | apply keep_drewN | apply keep_drew | apply keep_alloc) | exact HK.out)⟩
              · rw [if_neg c15] at H
                exact absurd H (by simp)
            · rw [if_neg c14] at H
              have c14b0 : decide (x4_2 < (s0_3.length : Int)) = false := decide_eq_false c14
              clear c14
              simp only [Option.some.injEq, Prod.mk.injEq] at H
              obtain ⟨rfl, rfl, rfl⟩ := H
              obtain ⟨ASz29_2, cSz29_2, ASz29_3, cSz29_3, HGz29, hgz29, HSz29_2, HSz29_3⟩ := HI0.out
              have hcz29_0 := cellS44_0 HGz29
              have hcz29_1 := cellS44_1 HGz29
              have hcz29_2 := cellS44_2 HGz29
              have hcz29_3 := cellS44_3 HGz29
              have hfz29_0 := blk_frozen HGz29 0
              have hfz29_1 := blk_frozen HGz29 1
              clear HGz29 hgz29
              go_wp2
              repeat (go_quiet (fail); try go_wp2)
              go_ret
              exact ⟨by first | rfl | (simp [errW_none, errW_some] <;> rfl) | (simp [*, errW_none, errW_some] <;> rfl), by repeat (first | (with_reducible first | exact HI0.out | apply IsS44.alloc | apply IsS44.drewN | apply IsS44.drew | apply IsS44.set_0 | apply IsS44.set_1) | exact HI0.out), by repeat (first | (with_reducible first | exact HB.out | apply below_alloc | apply pw_below_drewN | apply below_drew1 | refine below_set ?_ (IsS44.ge HI0.out)) | exact HB.out), by repeat (first | (with_reducible first | exact HK.out | apply KeepBut.set_ | apply keep_drewN | apply keep_drew | apply keep_alloc) | exact HK.out)⟩
-- the same at any address
set_option maxHeartbeats 8000000 in
set_option maxRecDepth 100000 in
theorem spec_l01Form.atcalls (k : Nat) (p0 : Addr) (s0_0 : Int) (s0_1 : Int) (s0_2 : List Bool) (s0_3 : List (List Int)) (r1 : Bool) (r2 : Int) (r3 : Int) (w0 w : World) (hI : IsP44 w0 w p0 s0_0 s0_1 s0_2 s0_3) (hB : Below w0.heap.size w0 w) (h : spec_l01Form.f k s0_0 s0_1 s0_2 s0_3 = some (r1, r2, r3)) :
    Calls Try.prog 82 #[.pointer (some p0)] w fun e w' => e = .returned (.bool r1) ∧ IsP44 w0 w' p0 r2 r3 s0_2 s0_3 ∧ Below w0.heap.size w0 w' ∧ KeepBut w w' p0.block none := by
  have HI0 := Aside0.mk hI
  have HK := Aside0.mk (KeepBut.refl w p0.block none)
  have HL := Aside0.mk hB.size
  clear hI
  have HW0 := Aside0.mk hB.size
  have HB := Aside0.mk hB
  clear hB
  have H : ((spec_l00In.f s0_0 1 3).bind fun t238 => (if t238 = true then (if (s0_2.length : Int) < 1 then (spec_l01Form.j0 k (s0_2.length : Int) true s0_0 s0_1 s0_2 s0_3) else ((spec_l00In.f s0_1 0 (wrap64 ((s0_2.length : Int) - 1))).bind fun t239 => (if t239 = true then (spec_l01Form.j0 k (s0_2.length : Int) ((s0_3.length : Int) != (s0_2.length : Int)) s0_0 s0_1 s0_2 s0_3) else (spec_l01Form.j0 k (s0_2.length : Int) true s0_0 s0_1 s0_2 s0_3)))) else (spec_l01Form.j0 k (s0_2.length : Int) true s0_0 s0_1 s0_2 s0_3))) = some (r1, r2, r3) := h
  clear h
  have HC2 := Aside0.mk H
  clear H
  obtain ⟨ASz3_2, cSz3_2, ASz3_3, cSz3_3, hcz3_0, hcz3_1, hcz3_2, hcz3_3, HSz3_2, HSz3_3⟩ := HI0.out
  go_enter Try.func82, Try.ntmps82
  go_upto_region 2 with (fail)
  repeat (go_quiet (fail); go_upto_region 2 with (fail))
  go_cut [39] (fun v39 wc => ∃ (kq : Nat) (x39_1 : Bool), v39 = .bool x39_1 ∧ Aside0 (spec_l01Form.j0 kq (s0_2.length : Int) x39_1 s0_0 s0_1 s0_2 s0_3 = some (r1, r2, r3)) ∧ Aside0 (kq ≤ k) ∧ Aside0 (IsP44 w0 wc p0 s0_0 s0_1 s0_2 s0_3) ∧ Aside0 (KeepBut w wc p0.block none) ∧ Aside0 (Below w0.heap.size w0 wc))
  case first =>
    have H := HC2.out
    clear HC2
    replace H := Option.bind_eq_some_iff.mp H
    obtain ⟨t238, A40, H⟩ := H
    replace H : (if t238 = true then (if (s0_2.length : Int) < 1 then (spec_l01Form.j0 k (s0_2.length : Int) true s0_0 s0_1 s0_2 s0_3) else ((spec_l00In.f s0_1 0 (wrap64 ((s0_2.length : Int) - 1))).bind fun t239 => (if t239 = true then (spec_l01Form.j0 k (s0_2.length : Int) ((s0_3.length : Int) != (s0_2.length : Int)) s0_0 s0_1 s0_2 s0_3) else (spec_l01Form.j0 k (s0_2.length : Int) true s0_0 s0_1 s0_2 s0_3)))) else (spec_l01Form.j0 k (s0_2.length : Int) true s0_0 s0_1 s0_2 s0_3)) = some (r1, r2, r3) := H
    have A4 := Aside0.mk A40
    clear A40
    by_cases c5 : t238 = true
    · subst c5
      have H1 : (if (s0_2.length : Int) < 1 then (spec_l01Form.j0 k (s0_2.length : Int) true s0_0 s0_1 s0_2 s0_3) else ((spec_l00In.f s0_1 0 (wrap64 ((s0_2.length : Int) - 1))).bind fun t239 => (if t239 = true then (spec_l01Form.j0 k (s0_2.length : Int) ((s0_3.length : Int) != (s0_2.length : Int)) s0_0 s0_1 s0_2 s0_3) else (spec_l01Form.j0 k (s0_2.length : Int) true s0_0 s0_1 s0_2 s0_3)))) = some (r1, r2, r3) := by rw [if_pos rfl] at H; exact H
      clear H
      have H := H1
      clear H1
      by_cases c6 : (s0_2.length : Int) < 1
      · rw [if_pos c6] at H
        have c6b0 : decide ((s0_2.length : Int) < 1) = true := decide_eq_true c6
        have c6b1 : decide (s0_2.length < 1) = true := decide_eq_true (by omega)
        clear c6
        (first | rw [c6b0] | (simp only [i64_w, i32_w]; rw [c6b0]) | skip)
        have H' := Aside0.mk H
        clear H
        obtain ⟨ASz7_2, cSz7_2, ASz7_3, cSz7_3, hcz7_0, hcz7_1, hcz7_2, hcz7_3, HSz7_2, HSz7_3⟩ := HI0.out
        go_wp2_with (first | (go_at_call 43; (with_reducible refine (spec_l00In.calls s0_0 1 3 true _ A4.out).mono ?_); rintro e w' ⟨rfl, ⟨nd, rfl⟩⟩; (try first | exact ⟨rfl, _, World.drewN_drewN _ _ _⟩ | exact ⟨rfl, _, Eq.trans (World.drewN_drewN _ _ _) (congrArg (World.drewN _) (Nat.add_assoc _ _ _))⟩)))
        repeat (go_quiet (first | (go_at_call 43; (with_reducible refine (spec_l00In.calls s0_0 1 3 true _ A4.out).mono ?_); rintro e w' ⟨rfl, ⟨nd, rfl⟩⟩; (try first | exact ⟨rfl, _, World.drewN_drewN _ _ _⟩ | exact ⟨rfl, _, Eq.trans (World.drewN_drewN _ _ _) (congrArg (World.drewN _) (Nat.add_assoc _ _ _))⟩))); try go_wp2_with (first | (go_at_call 43; (with_reducible refine (spec_l00In.calls s0_0 1 3 true _ A4.out).mono ?_); rintro e w' ⟨rfl, ⟨nd, rfl⟩⟩; (try first | exact ⟨rfl, _, World.drewN_drewN _ _ _⟩ | exact ⟨rfl, _, Eq.trans (World.drewN_drewN _ _ _) (congrArg (World.drewN _) (Nat.add_assoc _ _ _))⟩))))
        go_meet
        case rel => exact ⟨_, (true), (by first | rfl | (simp; done) | (simp [*]; done)), H', ⟨by first | omega | exact Nat.le_refl _⟩, ⟨by repeat (first | (with_reducible first | exact HI0.out | apply IsP44.alloc | apply IsP44.drewN | apply IsP44.drew | apply IsP44.set_0 | apply IsP44.set_1) | exact HI0.out)⟩, ⟨by repeat (first | (with_reducible first | exact HK.out | apply KeepBut.set_ | apply keep_drewN | apply keep_drew | apply keep_alloc) | exact HK.out)⟩, ⟨by repeat (first | (with_reducible first | exact HB.out | apply below_alloc | apply pw_below_drewN | apply below_drew1 | refine below_set ?_ (IsP44.ge HI0.out)) | exact HB.out)⟩⟩
      · rw [if_neg c6] at H
        have c6b0 : decide ((s0_2.length : Int) < 1) = false := decide_eq_false c6
        have c6b1 : decide (s0_2.length < 1) = false := decide_eq_false (by omega)
        clear c6
        (first | rw [c6b0] | (simp only [i64_w, i32_w]; rw [c6b0]) | skip)
        replace H := Option.bind_eq_some_iff.mp H
        obtain ⟨t239, A80, H⟩ := H
        replace H : (if t239 = true then (spec_l01Form.j0 k (s0_2.length : Int) ((s0_3.length : Int) != (s0_2.length : Int)) s0_0 s0_1 s0_2 s0_3) else (spec_l01Form.j0 k (s0_2.length : Int) true s0_0 s0_1 s0_2 s0_3)) = some (r1, r2, r3) := H
        have A8 := Aside0.mk A80
        clear A80
        by_cases c9 : t239 = true
        · subst c9
          have H1 : (spec_l01Form.j0 k (s0_2.length : Int) ((s0_3.length : Int) != (s0_2.length : Int)) s0_0 s0_1 s0_2 s0_3) = some (r1, r2, r3) := by rw [if_pos rfl] at H; exact H
          clear H
          have H := H1
          clear H1
          have H' := Aside0.mk H
          clear H
          obtain ⟨ASz10_2, cSz10_2, ASz10_3, cSz10_3, hcz10_0, hcz10_1, hcz10_2, hcz10_3, HSz10_2, HSz10_3⟩ := HI0.out
          go_wp2_with (first | (go_at_call 43; (with_reducible refine (spec_l00In.calls s0_0 1 3 true _ A4.out).mono ?_); rintro e w' ⟨rfl, ⟨nd, rfl⟩⟩; (try first | exact ⟨rfl, _, World.drewN_drewN _ _ _⟩ | exact ⟨rfl, _, Eq.trans (World.drewN_drewN _ _ _) (congrArg (World.drewN _) (Nat.add_assoc _ _ _))⟩)) | (go_at_call 43; (with_reducible refine (spec_l00In.calls s0_1 0 (wrap64 ((s0_2.length : Int) - 1)) true _ A8.out).mono ?_); rintro e w' ⟨rfl, ⟨nd, rfl⟩⟩; (try first | exact ⟨rfl, _, World.drewN_drewN _ _ _⟩ | exact ⟨rfl, _, Eq.trans (World.drewN_drewN _ _ _) (congrArg (World.drewN _) (Nat.add_assoc _ _ _))⟩)))
          repeat (go_quiet (first | (go_at_call 43; (with_reducible refine (spec_l00In.calls s0_0 1 3 true _ A4.out).mono ?_); rintro e w' ⟨rfl, ⟨nd, rfl⟩⟩; (try first | exact ⟨rfl, _, World.drewN_drewN _ _ _⟩ | exact ⟨rfl, _, Eq.trans (World.drewN_drewN _ _ _) (congrArg (World.drewN _) (Nat.add_assoc _ _ _))⟩)) | (go_at_call 43; (with_reducible refine (spec_l00In.calls s0_1 0 (wrap64 ((s0_2.length : Int) - 1)) true _ A8.out).mono ?_); rintro e w' ⟨rfl, ⟨nd, rfl⟩⟩; (try first | exact ⟨rfl, _, World.drewN_drewN _ _ _⟩ | exact ⟨rfl, _, Eq.trans (World.drewN_drewN _ _ _) (congrArg (World.drewN _) (Nat.add_assoc _ _ _))⟩))); try go_wp2_with (first | (go_at_call 43; (with_reducible refine (spec_l00In.calls s0_0 1 3 true _ A4.out).mono ?_); rintro e w' ⟨rfl, ⟨nd, rfl⟩⟩; (try first | exact ⟨rfl, _, World.drewN_drewN _ _ _⟩ | exact ⟨rfl, _, Eq.trans (World.drewN_drewN _ _ _) (congrArg (World.drewN _) (Nat.add_assoc _ _ _))⟩)) | (go_at_call 43; (with_reducible refine (spec_l00In.calls s0_1 0 (wrap64 ((s0_2.length : Int) - 1)) true _ A8.out).mono ?_); rintro e w' ⟨rfl, ⟨nd, rfl⟩⟩; (try first | exact ⟨rfl, _, World.drewN_drewN _ _ _⟩ | exact ⟨rfl, _, Eq.trans (World.drewN_drewN _ _ _) (congrArg (World.drewN _) (Nat.add_assoc _ _ _))⟩))))
          go_meet
          case rel => exact ⟨_, (((s0_3.length : Int) != (s0_2.length : Int))), (by first | rfl | (simp; done) | (simp [*]; done)), H', ⟨by first | omega | exact Nat.le_refl _⟩, ⟨by repeat (first | (with_reducible first | exact HI0.out | apply IsP44.alloc | apply IsP44.drewN | apply IsP44.drew | apply IsP44.set_0 | apply IsP44.set_1) | exact HI0.out)⟩, ⟨by repeat (first | (with_reducible first | exact HK.out | apply KeepBut.set_ | apply keep_drewN | apply keep_drew | apply keep_alloc) | exact HK.out)⟩, ⟨by repeat (first | (with_reducible first | exact HB.out | apply below_alloc | apply pw_below_drewN | apply below_drew1 | refine below_set ?_ (IsP44.ge HI0.out)) | exact HB.out)⟩⟩
        · replace c9 := Bool.eq_false_iff.mpr c9
          subst c9
          have H1 : (spec_l01Form.j0 k (s0_2.length : Int) true s0_0 s0_1 s0_2 s0_3) = some (r1, r2, r3) := by rw [if_neg (show ¬ (false = true) by decide)] at H; exact H
          clear H
          have H := H1
          clear H1
          have H' := Aside0.mk H
          clear H
          obtain ⟨ASz11_2, cSz11_2, ASz11_3, cSz11_3, hcz11_0, hcz11_1, hcz11_2, hcz11_3, HSz11_2, HSz11_3⟩ := HI0.out
          go_wp2_with (first | (go_at_call 43; (with_reducible refine (spec_l00In.calls s0_0 1 3 true _ A4.out).mono ?_); rintro e w' ⟨rfl, ⟨nd, rfl⟩⟩; (try first | exact ⟨rfl, _, World.drewN_drewN _ _ _⟩ | exact ⟨rfl, _, Eq.trans (World.drewN_drewN _ _ _) (congrArg (World.drewN _) (Nat.add_assoc _ _ _))⟩)) | (go_at_call 43; (with_reducible refine (spec_l00In.calls s0_1 0 (wrap64 ((s0_2.length : Int) - 1)) false _ A8.out).mono ?_); rintro e w' ⟨rfl, ⟨nd, rfl⟩⟩; (try first | exact ⟨rfl, _, World.drewN_drewN _ _ _⟩ | exact ⟨rfl, _, Eq.trans (World.drewN_drewN _ _ _) (congrArg (World.drewN _) (Nat.add_assoc _ _ _))⟩)))
          repeat (go_quiet (first | (go_at_call 43; (with_reducible refine (spec_l00In.calls s0_0 1 3 true _ A4.out).mono ?_); rintro e w' ⟨rfl, ⟨nd, rfl⟩⟩; (try first | exact ⟨rfl, _, World.drewN_drewN _ _ _⟩ | exact ⟨rfl, _, Eq.trans (World.drewN_drewN _ _ _) (congrArg (World.drewN _) (Nat.add_assoc _ _ _))⟩)) | (go_at_call 43; (with_reducible refine (spec_l00In.calls s0_1 0 (wrap64 ((s0_2.length : Int) - 1)) false _ A8.out).mono ?_); rintro e w' ⟨rfl, ⟨nd, rfl⟩⟩; (try first | exact ⟨rfl, _, World.drewN_drewN _ _ _⟩ | exact ⟨rfl, _, Eq.trans (World.drewN_drewN _ _ _) (congrArg (World.drewN _) (Nat.add_assoc _ _ _))⟩))); try go_wp2_with (first | (go_at_call 43; (with_reducible refine (spec_l00In.calls s0_0 1 3 true _ A4.out).mono ?_); rintro e w' ⟨rfl, ⟨nd, rfl⟩⟩; (try first | exact ⟨rfl, _, World.drewN_drewN _ _ _⟩ | exact ⟨rfl, _, Eq.trans (World.drewN_drewN _ _ _) (congrArg (World.drewN _) (Nat.add_assoc _ _ _))⟩)) | (go_at_call 43; (with_reducible refine (spec_l00In.calls s0_1 0 (wrap64 ((s0_2.length : Int) - 1)) false _ A8.out).mono ?_); rintro e w' ⟨rfl, ⟨nd, rfl⟩⟩; (try first | exact ⟨rfl, _, World.drewN_drewN _ _ _⟩ | exact ⟨rfl, _, Eq.trans (World.drewN_drewN _ _ _) (congrArg (World.drewN _) (Nat.add_assoc _ _ _))⟩))))
          go_meet
          case rel => exact ⟨_, (true), (by first | rfl | (simp; done) | (simp [*]; done)), H', ⟨by first | omega | exact Nat.le_refl _⟩, ⟨by repeat (first | (with_reducible first | exact HI0.out | apply IsP44.alloc | apply IsP44.drewN | apply IsP44.drew | apply IsP44.set_0 | apply IsP44.set_1) | exact HI0.out)⟩, ⟨by repeat (first | (with_reducible first | exact HK.out | apply KeepBut.set_ | apply keep_drewN | apply keep_drew | apply keep_alloc) | exact HK.out)⟩, ⟨by repeat (first | (with_reducible first | exact HB.out | apply below_alloc | apply pw_below_drewN | apply below_drew1 | refine below_set ?_ (IsP44.ge HI0.out)) | exact HB.out)⟩⟩
    · replace c5 := Bool.eq_false_iff.mpr c5
      subst c5
      have H1 : (spec_l01Form.j0 k (s0_2.length : Int) true s0_0 s0_1 s0_2 s0_3) = some (r1, r2, r3) := by rw [if_neg (show ¬ (false = true) by decide)] at H; exact H
      clear H
      have H := H1
      clear H1
      have H' := Aside0.mk H
      clear H
      obtain ⟨ASz12_2, cSz12_2, ASz12_3, cSz12_3, hcz12_0, hcz12_1, hcz12_2, hcz12_3, HSz12_2, HSz12_3⟩ := HI0.out
      go_wp2_with (first | (go_at_call 43; (with_reducible refine (spec_l00In.calls s0_0 1 3 false _ A4.out).mono ?_); rintro e w' ⟨rfl, ⟨nd, rfl⟩⟩; (try first | exact ⟨rfl, _, World.drewN_drewN _ _ _⟩ | exact ⟨rfl, _, Eq.trans (World.drewN_drewN _ _ _) (congrArg (World.drewN _) (Nat.add_assoc _ _ _))⟩)))
      repeat (go_quiet (first | (go_at_call 43; (with_reducible refine (spec_l00In.calls s0_0 1 3 false _ A4.out).mono ?_); rintro e w' ⟨rfl, ⟨nd, rfl⟩⟩; (try first | exact ⟨rfl, _, World.drewN_drewN _ _ _⟩ | exact ⟨rfl, _, Eq.trans (World.drewN_drewN _ _ _) (congrArg (World.drewN _) (Nat.add_assoc _ _ _))⟩))); try go_wp2_with (first | (go_at_call 43; (with_reducible refine (spec_l00In.calls s0_0 1 3 false _ A4.out).mono ?_); rintro e w' ⟨rfl, ⟨nd, rfl⟩⟩; (try first | exact ⟨rfl, _, World.drewN_drewN _ _ _⟩ | exact ⟨rfl, _, Eq.trans (World.drewN_drewN _ _ _) (congrArg (World.drewN _) (Nat.add_assoc _ _ _))⟩))))
      go_meet
      case rel => exact ⟨_, (true), (by first | rfl | (simp; done) | (simp [*]; done)), H', ⟨by first | omega | exact Nat.le_refl _⟩, ⟨by repeat (first | (with_reducible first | exact HI0.out | apply IsP44.alloc | apply IsP44.drewN | apply IsP44.drew | apply IsP44.set_0 | apply IsP44.set_1) | exact HI0.out)⟩, ⟨by repeat (first | (with_reducible first | exact HK.out | apply KeepBut.set_ | apply keep_drewN | apply keep_drew | apply keep_alloc) | exact HK.out)⟩, ⟨by repeat (first | (with_reducible first | exact HB.out | apply below_alloc | apply pw_below_drewN | apply below_drew1 | refine below_set ?_ (IsP44.ge HI0.out)) | exact HB.out)⟩⟩
  case rest =>
    clear HC2
    try clear p2
    try clear c5
    try clear c6
    try clear c6b0
    try clear c6b1
    try clear p6
    try clear c8
    try clear c9
    try clear hcz10_0
    try clear hcz10_1
    try clear hcz10_2
    try clear hcz10_3
    try clear hcz11_0
    try clear hcz11_1
    try clear hcz11_2
    try clear hcz11_3
    try clear hcz12_0
    try clear hcz12_1
    try clear hcz12_2
    try clear hcz12_3
    try clear hcz3_0
    try clear hcz3_1
    try clear hcz3_2
    try clear hcz3_3
    try clear hcz7_0
    try clear hcz7_1
    try clear hcz7_2
    try clear hcz7_3
    try clear hfz10_0
    try clear hfz10_1
    try clear hfz11_0
    try clear hfz11_1
    try clear hfz12_0
    try clear hfz12_1
    try clear hfz3_0
    try clear hfz3_1
    try clear hfz7_0
    try clear hfz7_1
    obtain ⟨kq, x39_1, rfl, HA, HJ1, HI0, HK, HB⟩ := hcut
    cases kq with
    | zero => exact absurd HA.out (by simp [spec_l01Form.j0])
    | succ kj1 =>
      have H := HA.out
      clear HA
      simp only [spec_l01Form.j0] at H
      by_cases c13 : x39_1 = true
      · subst c13
        have H1 : (some (false, s0_0, s0_1)) = some (r1, r2, r3) := by rw [if_pos rfl] at H; exact H
        clear H
        have H := H1
        clear H1
        simp only [Option.some.injEq, Prod.mk.injEq] at H
        obtain ⟨rfl, rfl, rfl⟩ := H
        go_wp2
        repeat (go_quiet (fail); try go_wp2)
        go_ret
        exact ⟨by first | rfl | (simp [errW_none, errW_some] <;> rfl) | (simp [*, errW_none, errW_some] <;> rfl), by repeat (first | (with_reducible first | exact HI0.out | apply IsP44.alloc | apply IsP44.drewN | apply IsP44.drew | apply IsP44.set_0 | apply IsP44.set_1) | exact HI0.out), by repeat (first | (with_reducible first | exact HB.out | apply below_alloc | apply pw_below_drewN | apply below_drew1 | refine below_set ?_ (IsP44.ge HI0.out)) | exact HB.out), by repeat (first | (with_reducible first | exact HK.out | apply KeepBut.set_ | apply keep_drewN | apply keep_drew | apply keep_alloc) | exact HK.out)⟩
      · replace c13 := Bool.eq_false_iff.mpr c13
        subst c13
        have H1 : (spec_l01Form.l0 kj1 (s0_2.length : Int) 0 s0_0 s0_1 s0_2 s0_3) = some (r1, r2, r3) := by rw [if_neg (show ¬ (false = true) by decide)] at H; exact H
        clear H
        have H := H1
        clear H1
        have H' := Aside0.mk H
        clear H
        go_wp2
        repeat (go_quiet (fail); try go_wp2)
        go_loopg [4] kj1 (fun kq v4 w' => ∃ (x4_2 : Int), v4 = .int .i64 x4_2 ∧ Aside0 (spec_l01Form.l0 kq (s0_2.length : Int) x4_2 s0_0 s0_1 s0_2 s0_3 = some (r1, r2, r3)) ∧ Aside0 (kq ≤ kj1) ∧ Aside0 (IsP44 w0 w' p0 s0_0 s0_1 s0_2 s0_3) ∧ Aside0 (KeepBut w w' p0.block none) ∧ Aside0 (Below w0.heap.size w0 w'))
        case atStart => exact ⟨(0), (by first | rfl | (simp; done) | (simp [*]; done)), H', ⟨Nat.le_refl _⟩, ⟨by repeat (first | (with_reducible first | exact HI0.out | apply IsP44.alloc | apply IsP44.drewN | apply IsP44.drew | apply IsP44.set_0 | apply IsP44.set_1) | exact HI0.out)⟩, ⟨by repeat (first | (with_reducible first | exact HK.out | apply KeepBut.set_ | apply keep_drewN | apply keep_drew | apply keep_alloc) | exact HK.out)⟩, ⟨by repeat (first | (with_reducible first | exact HB.out | apply below_alloc | apply pw_below_drewN | apply below_drew1 | refine below_set ?_ (IsP44.ge HI0.out)) | exact HB.out)⟩⟩
        case round =>
          clear H'
          try clear c1
          try clear p2
          try clear c5
          try clear c6
          try clear c6b0
          try clear c6b1
          try clear p6
          try clear c8
          try clear c9
          try clear c13
          try clear hcz10_0
          try clear hcz10_1
          try clear hcz10_2
          try clear hcz10_3
          try clear hcz11_0
          try clear hcz11_1
          try clear hcz11_2
          try clear hcz11_3
          try clear hcz12_0
          try clear hcz12_1
          try clear hcz12_2
          try clear hcz12_3
          try clear hcz3_0
          try clear hcz3_1
          try clear hcz3_2
          try clear hcz3_3
          try clear hcz7_0
          try clear hcz7_1
          try clear hcz7_2
          try clear hcz7_3
          try clear hfz10_0
          try clear hfz10_1
          try clear hfz11_0
          try clear hfz11_1
          try clear hfz12_0
          try clear hfz12_1
          try clear hfz3_0
          try clear hfz3_1
          try clear hfz7_0
          try clear hfz7_1
          try clear p2
          try clear p6
          obtain ⟨x4_2, rfl, HA, HK2, HI0, HK, HB⟩ := hrel
          cases gk with
          | zero => exact absurd HA.out (by simp [spec_l01Form.l0])
          | succ k2 =>
            have H := HA.out
            clear HA
            simp only [spec_l01Form.l0] at H
            by_cases c14 : x4_2 < (s0_3.length : Int)
            · rw [if_pos c14] at H
              have c14b0 : decide (x4_2 < (s0_3.length : Int)) = true := decide_eq_true c14
              clear c14
              by_cases c15 : 0 ≤ x4_2
              · rw [if_pos c15] at H
                have c15b0 : decide (0 ≤ x4_2) = true := decide_eq_true c15
                clear c15
                replace H := Option.bind_eq_some_iff.mp H
                obtain ⟨t241, A160, H⟩ := H
                replace H : (if ((rd_L4 s0_3 x4_2).length : Int) = t241 then (spec_l01Form.l1 k2 (s0_2.length : Int) x4_2 0 s0_0 s0_1 s0_2 s0_3) else (some (false, s0_0, s0_1))) = some (r1, r2, r3) := H
                have A16 := Aside0.mk A160
                clear A160
                by_cases c17 : ((rd_L4 s0_3 x4_2).length : Int) = t241
                · rw [if_pos c17] at H
                  have c17b0 : (((rd_L4 s0_3 x4_2).length : Int) == t241) = true := beq_iff_eq.mpr c17
                  have c17b1 : (((rd_L4 s0_3 x4_2).length : Int) != t241) = false := bne_eq_false_iff_eq.mpr c17
                  clear c17
                  have H' := Aside0.mk H
                  clear H
                  obtain ⟨ASz18_2, cSz18_2, ASz18_3, cSz18_3, hcz18_0, hcz18_1, hcz18_2, hcz18_3, HSz18_2, HSz18_3⟩ := HI0.out
                  have p240 : 0 ≤ (x4_2 : Int) := of_decide_eq_true (by first | (with_reducible assumption) | assumption)
                  have q240 : x4_2 < (s0_3.length : Int) := of_decide_eq_true (by first | (with_reducible assumption) | assumption)
                  obtain ⟨ad240, A240_0, c240_0, e240, hx240_0, hl240_0, hi240_0⟩ := at_L4 HSz18_3 x4_2 p240 q240
                  cases e240
                  replace hx240_0 := pw_cell_below HB.out hx240_0
                  have HR240_0 := Aside0.mk hi240_0
                  have HC240_0 := Aside0.mk hl240_0
                  clear hi240_0 hl240_0
                  replace p240 := eq_true p240
                  replace q240 := eq_true q240
                  go_wp2_with (first | (go_at_call 45; (with_reducible refine (spec_l01Wide.calls k2 s0_0 t241 _ A16.out).mono ?_); rintro e w' ⟨rfl, ⟨nd, rfl⟩⟩; (try first | exact ⟨rfl, _, World.drewN_drewN _ _ _⟩ | exact ⟨rfl, _, Eq.trans (World.drewN_drewN _ _ _) (congrArg (World.drewN _) (Nat.add_assoc _ _ _))⟩)))
                  repeat (go_quiet (first | (go_at_call 45; (with_reducible refine (spec_l01Wide.calls k2 s0_0 t241 _ A16.out).mono ?_); rintro e w' ⟨rfl, ⟨nd, rfl⟩⟩; (try first | exact ⟨rfl, _, World.drewN_drewN _ _ _⟩ | exact ⟨rfl, _, Eq.trans (World.drewN_drewN _ _ _) (congrArg (World.drewN _) (Nat.add_assoc _ _ _))⟩))); try go_wp2_with (first | (go_at_call 45; (with_reducible refine (spec_l01Wide.calls k2 s0_0 t241 _ A16.out).mono ?_); rintro e w' ⟨rfl, ⟨nd, rfl⟩⟩; (try first | exact ⟨rfl, _, World.drewN_drewN _ _ _⟩ | exact ⟨rfl, _, Eq.trans (World.drewN_drewN _ _ _) (congrArg (World.drewN _) (Nat.add_assoc _ _ _))⟩))))
                  go_loopg [5] k2 (fun kq v5 w' => ∃ (x5_3 : Int), v5 = .int .i64 x5_3 ∧ Aside0 (spec_l01Form.l1 kq (s0_2.length : Int) x4_2 x5_3 s0_0 s0_1 s0_2 s0_3 = some (r1, r2, r3)) ∧ Aside0 (kq ≤ k2) ∧ Aside0 (Kd.C (Kd.int .i64) w' A240_0 (rd_L4 s0_3 x4_2).length (rd_L4 s0_3 x4_2)) ∧ Aside0 (IsP44 w0 w' p0 s0_0 s0_1 s0_2 s0_3) ∧ Aside0 (KeepBut w w' p0.block none) ∧ Aside0 (Below w0.heap.size w0 w'))
                  case atStart => exact ⟨(0), (by first | rfl | (simp; done) | (simp [*]; done)), H', ⟨Nat.le_refl _⟩, ⟨by repeat (first | (with_reducible exact HR240_0.out) | (with_reducible exact Kd.C_below HR240_0.out HB.out) | (with_reducible refine Kd.C_alloc ?_ _) | (with_reducible refine Kd.C_drewN ?_ _) | (with_reducible refine Kd.C_drew ?_) | exact HR240_0.out)⟩, ⟨by repeat (first | (with_reducible first | exact HI0.out | apply IsP44.alloc | apply IsP44.drewN | apply IsP44.drew | apply IsP44.set_0 | apply IsP44.set_1) | exact HI0.out)⟩, ⟨by repeat (first | (with_reducible first | exact HK.out | apply KeepBut.set_ | apply keep_drewN | apply keep_drew | apply keep_alloc) | exact HK.out)⟩, ⟨by repeat (first | (with_reducible first | exact HB.out | apply below_alloc | apply pw_below_drewN | apply below_drew1 | refine below_set ?_ (IsP44.ge HI0.out)) | exact HB.out)⟩⟩
                  case round =>
                    clear H'
                    try clear c1
                    try clear c2
                    try clear p2
                    try clear q2
                    try clear hx2
                    try clear c5
                    try clear c6
                    try clear c6b0
                    try clear c6b1
                    try clear p6
                    try clear c8
                    try clear c9
                    try clear c13
                    try clear c14
                    try clear c14b0
                    try clear c15
                    try clear c15b0
                    try clear c17
                    try clear c17b0
                    try clear c17b1
                    try clear hcz10_0
                    try clear hcz10_1
                    try clear hcz10_2
                    try clear hcz10_3
                    try clear hcz11_0
                    try clear hcz11_1
                    try clear hcz11_2
                    try clear hcz11_3
                    try clear hcz12_0
                    try clear hcz12_1
                    try clear hcz12_2
                    try clear hcz12_3
                    try clear hcz18_0
                    try clear hcz18_1
                    try clear hcz18_2
                    try clear hcz18_3
                    try clear hcz3_0
                    try clear hcz3_1
                    try clear hcz3_2
                    try clear hcz3_3
                    try clear hcz7_0
                    try clear hcz7_1
                    try clear hcz7_2
                    try clear hcz7_3
                    try clear hfz10_0
                    try clear hfz10_1
                    try clear hfz11_0
                    try clear hfz11_1
                    try clear hfz12_0
                    try clear hfz12_1
                    try clear hfz18_0
                    try clear hfz18_1
                    try clear hfz3_0
                    try clear hfz3_1
                    try clear hfz7_0
                    try clear hfz7_1
                    try clear hx240_0
                    try clear p2
                    try clear p240
                    try clear p6
                    try clear q240
                    obtain ⟨x5_3, rfl, HA, HK3, HR240_0, HI0, HK, HB⟩ := hrel
                    cases gk with
                    | zero => exact absurd HA.out (by simp [spec_l01Form.l1])
                    | succ k3 =>
                      have H := HA.out
                      clear HA
                      simp only [spec_l01Form.l1] at H
                      by_cases c19 : 0 ≤ x4_2
                      · rw [if_pos c19] at H
                        have c19b0 : decide (0 ≤ x4_2) = true := decide_eq_true c19
                        clear c19
                        by_cases c20 : x4_2 < (s0_3.length : Int)
                        · rw [if_pos c20] at H
                          have c20b0 : decide (x4_2 < (s0_3.length : Int)) = true := decide_eq_true c20
                          clear c20
                          by_cases c21 : x5_3 < ((rd_L4 s0_3 x4_2).length : Int)
                          · rw [if_pos c21] at H
                            have c21b0 : decide (x5_3 < ((rd_L4 s0_3 x4_2).length : Int)) = true := decide_eq_true c21
                            clear c21
                            by_cases c22 : 0 ≤ x5_3
                            · rw [if_pos c22] at H
                              have c22b0 : decide (0 ≤ x5_3) = true := decide_eq_true c22
                              clear c22
                              replace H := Option.bind_eq_some_iff.mp H
                              obtain ⟨t245, A230, H⟩ := H
                              replace H : (if t245 = true then (spec_l01Form.l1 k3 (s0_2.length : Int) x4_2 (wrap64 (x5_3 + 1)) s0_0 s0_1 s0_2 s0_3) else (some (false, s0_0, s0_1))) = some (r1, r2, r3) := H
                              have A23 := Aside0.mk A230
                              clear A230
                              by_cases c24 : t245 = true
                              · subst c24
                                have H1 : (spec_l01Form.l1 k3 (s0_2.length : Int) x4_2 (wrap64 (x5_3 + 1)) s0_0 s0_1 s0_2 s0_3) = some (r1, r2, r3) := by rw [if_pos rfl] at H; exact H
                                clear H
                                have H := H1
                                clear H1
                                have H' := Aside0.mk H
                                clear H
                                obtain ⟨ASz25_2, cSz25_2, ASz25_3, cSz25_3, hcz25_0, hcz25_1, hcz25_2, hcz25_3, HSz25_2, HSz25_3⟩ := HI0.out
                                have p242 : 0 ≤ (x4_2 : Int) := of_decide_eq_true (by first | (with_reducible assumption) | assumption)
                                have q242 : x4_2 < (s0_3.length : Int) := of_decide_eq_true (by first | (with_reducible assumption) | assumption)
                                obtain ⟨ad242, A242_0, c242_0, e242, hx242_0, hl242_0, hi242_0⟩ := at_L4 HSz25_3 x4_2 p242 q242
                                cases e242
                                replace hx242_0 := pw_cell_below HB.out hx242_0
                                have HR242_0 := Aside0.mk hi242_0
                                have HC242_0 := Aside0.mk hl242_0
                                clear hi242_0 hl242_0
                                replace p242 := eq_true p242
                                replace q242 := eq_true q242
                                have p243 : 0 ≤ (x4_2 : Int) := of_decide_eq_true (by first | (with_reducible assumption) | assumption)
                                have q243 : x4_2 < (s0_3.length : Int) := of_decide_eq_true (by first | (with_reducible assumption) | assumption)
                                obtain ⟨ad243, A243_0, c243_0, e243, hx243_0, hl243_0, hi243_0⟩ := at_L4 HSz25_3 x4_2 p243 q243
                                obtain rfl : ad242 = ad243 := (by injection e243)
                                replace hx243_0 := pw_cell_below HB.out hx243_0
                                try (have hxe_ := hx242_0.symm.trans hx243_0; injection hxe_ with hxe_; injection hxe_ with hA_ hl_ hc_; subst hA_; subst hc_)
                                have HR243_0 := Aside0.mk hi243_0
                                have HC243_0 := Aside0.mk hl243_0
                                clear hi243_0 hl243_0
                                replace p243 := eq_true p243
                                replace q243 := eq_true q243
                                have p244 : 0 ≤ (x5_3 : Int) := of_decide_eq_true (by first | (with_reducible assumption) | assumption)
                                have q244 : x5_3 < ((rd_L4 s0_3 x4_2).length : Int) := of_decide_eq_true (by first | (with_reducible assumption) | assumption)
                                obtain ⟨ad244, e244, hx244_0⟩ := Kd.at_int HR243_0.out x5_3 p244 q244
                                cases e244
                                replace hx244_0 := (by first | exact keep_cell HK.out hx244_0 (by first | (rw [add_block]; exact hf243_0 _ rfl (by omega)) | exact hf243_0 _ rfl (by omega) | exact hf243_0 ad244 rfl (by omega)) | exact pw_cell_below HB.out hx244_0)
                                replace p244 := eq_true p244
                                replace q244 := eq_true q244
                                go_wp2_with (first | (go_at_call 43; (with_reducible refine (spec_l00In.calls (rd (rd_L4 s0_3 x4_2) x5_3) 0 (wrap64 ((s0_2.length : Int) - 1)) true _ A23.out).mono ?_); rintro e w' ⟨rfl, ⟨nd, rfl⟩⟩; (try first | exact ⟨rfl, _, World.drewN_drewN _ _ _⟩ | exact ⟨rfl, _, Eq.trans (World.drewN_drewN _ _ _) (congrArg (World.drewN _) (Nat.add_assoc _ _ _))⟩)))
                                repeat (go_quiet (first | (go_at_call 43; (with_reducible refine (spec_l00In.calls (rd (rd_L4 s0_3 x4_2) x5_3) 0 (wrap64 ((s0_2.length : Int) - 1)) true _ A23.out).mono ?_); rintro e w' ⟨rfl, ⟨nd, rfl⟩⟩; (try first | exact ⟨rfl, _, World.drewN_drewN _ _ _⟩ | exact ⟨rfl, _, Eq.trans (World.drewN_drewN _ _ _) (congrArg (World.drewN _) (Nat.add_assoc _ _ _))⟩))); try go_wp2_with (first | (go_at_call 43; (with_reducible refine (spec_l00In.calls (rd (rd_L4 s0_3 x4_2) x5_3) 0 (wrap64 ((s0_2.length : Int) - 1)) true _ A23.out).mono ?_); rintro e w' ⟨rfl, ⟨nd, rfl⟩⟩; (try first | exact ⟨rfl, _, World.drewN_drewN _ _ _⟩ | exact ⟨rfl, _, Eq.trans (World.drewN_drewN _ _ _) (congrArg (World.drewN _) (Nat.add_assoc _ _ _))⟩))))
                                go_roundg k3
                                case measure => have := HJ1.out; have := HK2.out; have := HK3.out; omega
                                case rel => exact ⟨(wrap64 (x5_3 + 1)), (by first | rfl | (simp; done) | (simp [*]; done)), H', ⟨by have := HJ1.out; have := HK2.out; have := HK3.out; omega⟩, ⟨by repeat (first | (with_reducible exact HR240_0.out) | (with_reducible exact Kd.C_below HR240_0.out HB.out) | (with_reducible refine Kd.C_alloc ?_ _) | (with_reducible refine Kd.C_drewN ?_ _) | (with_reducible refine Kd.C_drew ?_) | exact HR240_0.out)⟩, ⟨by repeat (first | (with_reducible first | exact HI0.out | apply IsP44.alloc | apply IsP44.drewN | apply IsP44.drew | apply IsP44.set_0 | apply IsP44.set_1) | exact HI0.out)⟩, ⟨by repeat (first | (with_reducible first | exact HK.out | apply KeepBut.set_ | apply keep_drewN | apply keep_drew | apply keep_alloc) | exact HK.out)⟩, ⟨by repeat (first | (with_reducible first | exact HB.out | apply below_alloc | apply pw_below_drewN | apply below_drew1 | refine below_set ?_ (IsP44.ge HI0.out)) | exact HB.out)⟩⟩
                              · replace c24 := Bool.eq_false_iff.mpr c24
                                subst c24
                                have H1 : (some (false, s0_0, s0_1)) = some (r1, r2, r3) := by rw [if_neg (show ¬ (false = true) by decide)] at H; exact H
                                clear H
                                have H := H1
                                clear H1
                                simp only [Option.some.injEq, Prod.mk.injEq] at H
                                obtain ⟨rfl, rfl, rfl⟩ := H
                                obtain ⟨ASz26_2, cSz26_2, ASz26_3, cSz26_3, hcz26_0, hcz26_1, hcz26_2, hcz26_3, HSz26_2, HSz26_3⟩ := HI0.out
                                have p242 : 0 ≤ (x4_2 : Int) := of_decide_eq_true (by first | (with_reducible assumption) | assumption)
                                have q242 : x4_2 < (s0_3.length : Int) := of_decide_eq_true (by first | (with_reducible assumption) | assumption)
                                obtain ⟨ad242, A242_0, c242_0, e242, hx242_0, hl242_0, hi242_0⟩ := at_L4 HSz26_3 x4_2 p242 q242
                                cases e242
                                replace hx242_0 := pw_cell_below HB.out hx242_0
                                have HR242_0 := Aside0.mk hi242_0
                                have HC242_0 := Aside0.mk hl242_0
                                clear hi242_0 hl242_0
                                replace p242 := eq_true p242
                                replace q242 := eq_true q242
                                have p243 : 0 ≤ (x4_2 : Int) := of_decide_eq_true (by first | (with_reducible assumption) | assumption)
                                have q243 : x4_2 < (s0_3.length : Int) := of_decide_eq_true (by first | (with_reducible assumption) | assumption)
                                obtain ⟨ad243, A243_0, c243_0, e243, hx243_0, hl243_0, hi243_0⟩ := at_L4 HSz26_3 x4_2 p243 q243
                                obtain rfl : ad242 = ad243 := (by injection e243)
                                replace hx243_0 := pw_cell_below HB.out hx243_0
                                try (have hxe_ := hx242_0.symm.trans hx243_0; injection hxe_ with hxe_; injection hxe_ with hA_ hl_ hc_; subst hA_; subst hc_)
                                have HR243_0 := Aside0.mk hi243_0
                                have HC243_0 := Aside0.mk hl243_0
                                clear hi243_0 hl243_0
                                replace p243 := eq_true p243
                                replace q243 := eq_true q243
                                have p244 : 0 ≤ (x5_3 : Int) := of_decide_eq_true (by first | (with_reducible assumption) | assumption)
                                have q244 : x5_3 < ((rd_L4 s0_3 x4_2).length : Int) := of_decide_eq_true (by first | (with_reducible assumption) | assumption)
                                obtain ⟨ad244, e244, hx244_0⟩ := Kd.at_int HR243_0.out x5_3 p244 q244
                                cases e244
                                replace hx244_0 := (by first | exact keep_cell HK.out hx244_0 (by first | (rw [add_block]; exact hf243_0 _ rfl (by omega)) | exact hf243_0 _ rfl (by omega) | exact hf243_0 ad244 rfl (by omega)) | exact pw_cell_below HB.out hx244_0)
                                replace p244 := eq_true p244
                                replace q244 := eq_true q244
                                go_wp2_with (first | (go_at_call 43; (with_reducible refine (spec_l00In.calls (rd (rd_L4 s0_3 x4_2) x5_3) 0 (wrap64 ((s0_2.length : Int) - 1)) false _ A23.out).mono ?_); rintro e w' ⟨rfl, ⟨nd, rfl⟩⟩; (try first | exact ⟨rfl, _, World.drewN_drewN _ _ _⟩ | exact ⟨rfl, _, Eq.trans (World.drewN_drewN _ _ _) (congrArg (World.drewN _) (Nat.add_assoc _ _ _))⟩)))
                                repeat (go_quiet (first | (go_at_call 43; (with_reducible refine (spec_l00In.calls (rd (rd_L4 s0_3 x4_2) x5_3) 0 (wrap64 ((s0_2.length : Int) - 1)) false _ A23.out).mono ?_); rintro e w' ⟨rfl, ⟨nd, rfl⟩⟩; (try first | exact ⟨rfl, _, World.drewN_drewN _ _ _⟩ | exact ⟨rfl, _, Eq.trans (World.drewN_drewN _ _ _) (congrArg (World.drewN _) (Nat.add_assoc _ _ _))⟩))); try go_wp2_with (first | (go_at_call 43; (with_reducible refine (spec_l00In.calls (rd (rd_L4 s0_3 x4_2) x5_3) 0 (wrap64 ((s0_2.length : Int) - 1)) false _ A23.out).mono ?_); rintro e w' ⟨rfl, ⟨nd, rfl⟩⟩; (try first | exact ⟨rfl, _, World.drewN_drewN _ _ _⟩ | exact ⟨rfl, _, Eq.trans (World.drewN_drewN _ _ _) (congrArg (World.drewN _) (Nat.add_assoc _ _ _))⟩))))
                                go_ret
                                exact ⟨by first | rfl | (simp [errW_none, errW_some] <;> rfl) | (simp [*, errW_none, errW_some] <;> rfl), by repeat (first | (with_reducible first | exact HI0.out | apply IsP44.alloc | apply IsP44.drewN | apply IsP44.drew | apply IsP44.set_0 | apply IsP44.set_1) | exact HI0.out), by repeat (first | (with_reducible first | exact HB.out | apply below_alloc | apply pw_below_drewN | apply below_drew1 | refine below_set ?_ (IsP44.ge HI0.out)) | exact HB.out), by repeat (first | (with_reducible first | exact HK.out | apply KeepBut.set_ | apply keep_drewN | apply keep_drew | apply keep_alloc) | exact HK.out)⟩
                            · rw [if_neg c22] at H
                              exact absurd H (by simp)
                          · rw [if_neg c21] at H
                            have c21b0 : decide (x5_3 < ((rd_L4 s0_3 x4_2).length : Int)) = false := decide_eq_false c21
                            clear c21
                            have H' := Aside0.mk H
                            clear H
                            obtain ⟨ASz27_2, cSz27_2, ASz27_3, cSz27_3, hcz27_0, hcz27_1, hcz27_2, hcz27_3, HSz27_2, HSz27_3⟩ := HI0.out
                            have p242 : 0 ≤ (x4_2 : Int) := of_decide_eq_true (by first | (with_reducible assumption) | assumption)
                            have q242 : x4_2 < (s0_3.length : Int) := of_decide_eq_true (by first | (with_reducible assumption) | assumption)
                            obtain ⟨ad242, A242_0, c242_0, e242, hx242_0, hl242_0, hi242_0⟩ := at_L4 HSz27_3 x4_2 p242 q242
                            cases e242
                            replace hx242_0 := pw_cell_below HB.out hx242_0
                            have HR242_0 := Aside0.mk hi242_0
                            have HC242_0 := Aside0.mk hl242_0
                            clear hi242_0 hl242_0
                            replace p242 := eq_true p242
                            replace q242 := eq_true q242
                            go_wp2
                            repeat (go_quiet (fail); try go_wp2)
                            go_roundg k3
                            case measure => have := HJ1.out; have := HK2.out; have := HK3.out; omega
                            case rel => exact ⟨(wrap64 (x4_2 + 1)), (by first | rfl | (simp; done) | (simp [*]; done)), H', ⟨by have := HJ1.out; have := HK2.out; have := HK3.out; omega⟩, ⟨by repeat (first | (with_reducible first | exact HI0.out | apply IsP44.alloc | apply IsP44.drewN | apply IsP44.drew | apply IsP44.set_0 | apply IsP44.set_1) | exact HI0.out)⟩, ⟨by repeat (first | (with_reducible first | exact HK.out | apply KeepBut.set_ | apply keep_drewN | apply keep_drew | apply keep_alloc) | exact HK.out)⟩, ⟨by repeat (first | (with_reducible first | exact HB.out | apply below_alloc | apply pw_below_drewN | apply below_drew1 | refine below_set ?_ (IsP44.ge HI0.out)) | exact HB.out)⟩⟩
                        · rw [if_neg c20] at H
                          exact absurd H (by simp)
                      · rw [if_neg c19] at H
                        exact absurd H (by simp)
                · rw [if_neg c17] at H
                  have c17b0 : (((rd_L4 s0_3 x4_2).length : Int) == t241) = false := beq_eq_false_iff_ne.mpr c17
                  have c17b1 : (((rd_L4 s0_3 x4_2).length : Int) != t241) = true := bne_iff_ne.mpr c17
                  simp only [Option.some.injEq, Prod.mk.injEq] at H
                  obtain ⟨rfl, rfl, rfl⟩ := H
                  obtain ⟨ASz28_2, cSz28_2, ASz28_3, cSz28_3, hcz28_0, hcz28_1, hcz28_2, hcz28_3, HSz28_2, HSz28_3⟩ := HI0.out
                  have p240 : 0 ≤ (x4_2 : Int) := of_decide_eq_true (by first | (with_reducible assumption) | assumption)
                  have q240 : x4_2 < (s0_3.length : Int) := of_decide_eq_true (by first | (with_reducible assumption) | assumption)
                  obtain ⟨ad240, A240_0, c240_0, e240, hx240_0, hl240_0, hi240_0⟩ := at_L4 HSz28_3 x4_2 p240 q240
                  cases e240
                  replace hx240_0 := pw_cell_below HB.out hx240_0
                  have HR240_0 := Aside0.mk hi240_0
                  have HC240_0 := Aside0.mk hl240_0
                  clear hi240_0 hl240_0
                  replace p240 := eq_true p240
                  replace q240 := eq_true q240
                  go_wp2_with (first | (go_at_call 45; (with_reducible refine (spec_l01Wide.calls k2 s0_0 t241 _ A16.out).mono ?_); rintro e w' ⟨rfl, ⟨nd, rfl⟩⟩; (try first | exact ⟨rfl, _, World.drewN_drewN _ _ _⟩ | exact ⟨rfl, _, Eq.trans (World.drewN_drewN _ _ _) (congrArg (World.drewN _) (Nat.add_assoc _ _ _))⟩)))
                  repeat (go_quiet (first | (go_at_call 45; (with_reducible refine (spec_l01Wide.calls k2 s0_0 t241 _ A16.out).mono ?_); rintro e w' ⟨rfl, ⟨nd, rfl⟩⟩; (try first | exact ⟨rfl, _, World.drewN_drewN _ _ _⟩ | exact ⟨rfl, _, Eq.trans (World.drewN_drewN _ _ _) (congrArg (World.drewN _) (Nat.add_assoc _ _ _))⟩))); try go_wp2_with (first | (go_at_call 45; (with_reducible refine (spec_l01Wide.calls k2 s0_0 t241 _ A16.out).mono ?_); rintro e w' ⟨rfl, ⟨nd, rfl⟩⟩; (try first | exact ⟨rfl, _, World.drewN_drewN _ _ _⟩ | exact ⟨rfl, _, Eq.trans (World.drewN_drewN _ _ _) (congrArg (World.drewN _) (Nat.add_assoc _ _ _))⟩))))
                  go_ret
                  exact ⟨by first | rfl | (simp [errW_none, errW_some] <;> rfl) | (simp [*, errW_none, errW_some] <;> rfl), by repeat (first | (with_reducible first | exact HI0.out | apply IsP44.alloc | apply IsP44.drewN | apply IsP44.drew | apply IsP44.set_0 | apply IsP44.set_1) | exact HI0.out), by repeat (first | (with_reducible first | exact HB.out | apply below_alloc | apply pw_below_drewN | apply below_drew1 | refine below_set ?_ (IsP44.ge HI0.out)) | exact HB.out), by repeat (first | (with_reducible first | exact HK.out | apply KeepBut.set_ | apply keep_drewN | apply keep_drew | apply keep_alloc) | exact HK.out)⟩
              · rw [if_neg c15] at H
                exact absurd H (by simp)
            · rw [if_neg c14] at H
              have c14b0 : decide (x4_2 < (s0_3.length : Int)) = false := decide_eq_false c14
              clear c14
              simp only [Option.some.injEq, Prod.mk.injEq] at H
              obtain ⟨rfl, rfl, rfl⟩ := H
              obtain ⟨ASz29_2, cSz29_2, ASz29_3, cSz29_3, hcz29_0, hcz29_1, hcz29_2, hcz29_3, HSz29_2, HSz29_3⟩ := HI0.out
              go_wp2
              repeat (go_quiet (fail); try go_wp2)
              go_ret
              exact ⟨by first | rfl | (simp [errW_none, errW_some] <;> rfl) | (simp [*, errW_none, errW_some] <;> rfl), by repeat (first | (with_reducible first | exact HI0.out | apply IsP44.alloc | apply IsP44.drewN | apply IsP44.drew | apply IsP44.set_0 | apply IsP44.set_1) | exact HI0.out), by repeat (first | (with_reducible first | exact HB.out | apply below_alloc | apply pw_below_drewN | apply below_drew1 | refine below_set ?_ (IsP44.ge HI0.out)) | exact HB.out), by repeat (first | (with_reducible first | exact HK.out | apply KeepBut.set_ | apply keep_drewN | apply keep_drew | apply keep_alloc) | exact HK.out)⟩

end Go.Proofs.Ytbbkhkipnkejmaa.X
