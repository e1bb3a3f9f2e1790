import Derived.Test.YtocfcpicleomcaaDoorOP2
import Derived.Test.YtocfcpicleomcaaDoorOP3
import Derived.Carry
import Derived.Outline
namespace Go.Proofs.YtocfcpicleomcaaDoor.X
set_option maxHeartbeats 16000000
set_option maxRecDepth 100000
open Go.RowKit Go.Proofs.YtocfcpicleomcaaDoorW.PrintWords Go.Proofs.YtocfcpicleomcaaDoorW.PrintLast Go.Proofs.YtocfcpicleomcaaDoorW.PrintMore
attribute [local go_sem] max2_int min2_int max_two min_two max_three min_three max_four min_four
set_option linter.unusedVariables false
set_option linter.unusedSimpArgs false
/-- A state of type 29 at block g of W; what its slices lead to came in by w0. -/
def IsS29 (w0 W : World) (g : Nat) (f0 : Int) (f1 : Int) (f2 : List Bool) (f3 : List (List Int)) : Prop := ∃ A2 c2, ∃ A3 c3, W.heap[g]? = some (.cells #[.int .i64 f0, .int .i64 f1, .slice A2 f2.length c2, .slice A3 f3.length c3] 29 (0, 0)) ∧ w0.heap.size ≤ g ∧ Kd.C Kd.bool w0 A2 f2.length f2 ∧ Kd.C (Kd.slice 2 (Kd.int .i64)) w0 A3 f3.length f3
theorem IsS29.grown {w0 W : World} {g : Nat} {f0 : Int} {f1 : Int} {f2 : List Bool} {f3 : List (List Int)} {W1 : World} {row : Option Nat} (h : IsS29 w0 W g f0 f1 f2 f3) (hw : W.grownBy W1 row) (hne : some g ≠ row) : IsS29 w0 W1 g f0 f1 f2 f3 := by
 obtain ⟨A2, c2, A3, c3, hb, hg, hr2, hr3⟩ := h; exact ⟨A2, c2, A3, c3, blk_grown hb hw hne, hg, hr2, hr3⟩
theorem IsS29.fresh {w0 W : World} {g : Nat} {f0 : Int} {f1 : Int} {f2 : List Bool} {f3 : List (List Int)} (h : IsS29 w0 W g f0 f1 f2 f3) : ∀ k, W.heap.size ≤ k → k ≠ g := by
 obtain ⟨A2, c2, A3, c3, hb, hg, hr2, hr3⟩ := h; exact Kd.freshB hb
theorem IsS29.kept {w0 W : World} {g : Nat} {f0 : Int} {f1 : Int} {f2 : List Bool} {f3 : List (List Int)} {W1 : World} {S : Nat → Prop} (h : IsS29 w0 W g f0 f1 f2 f3) (hk : Kept W W1 S) (hne : ¬ S g) : IsS29 w0 W1 g f0 f1 f2 f3 := by
 obtain ⟨A2, c2, A3, c3, hb, hg, hr2, hr3⟩ := h; exact ⟨A2, c2, A3, c3, blk_kept hb hk hne, hg, hr2, hr3⟩
theorem IsS29.below {w0 W : World} {g : Nat} {f0 : Int} {f1 : Int} {f2 : List Bool} {f3 : List (List Int)} {W1 : World} (h : IsS29 w0 W g f0 f1 f2 f3) (hw : Below W.heap.size W W1) : IsS29 w0 W1 g f0 f1 f2 f3 := h.grown (grown_of_below hw none) (by simp)
theorem IsS29.alloc {w0 W : World} {g : Nat} {f0 : Int} {f1 : Int} {f2 : List Bool} {f3 : List (List Int)} (h : IsS29 w0 W g f0 f1 f2 f3) (o : Obj) : IsS29 w0 (W.alloc o) g f0 f1 f2 f3 := h.below (below_alloc (Below.refl _ _) o)
theorem IsS29.drewN {w0 W : World} {g : Nat} {f0 : Int} {f1 : Int} {f2 : List Bool} {f3 : List (List Int)} (h : IsS29 w0 W g f0 f1 f2 f3) (m : Nat) : IsS29 w0 (W.drewN m) g f0 f1 f2 f3 := h
theorem IsS29.drew {w0 W : World} {g : Nat} {f0 : Int} {f1 : Int} {f2 : List Bool} {f3 : List (List Int)} (h : IsS29 w0 W g f0 f1 f2 f3) : IsS29 w0 W.drew g f0 f1 f2 f3 := h
theorem IsS29.at_ {w0 W : World} {g : Nat} {f0 : Int} {f1 : Int} {f2 : List Bool} {f3 : List (List Int)} {w' : World} {m : Nat} (hq : W.drewN m = w') (h : IsS29 w0 W g f0 f1 f2 f3) : IsS29 w0 w' g f0 f1 f2 f3 := by subst hq; exact IsS29.drewN h m
theorem IsS29.apart {w0 W : World} {g : Nat} {f0 : Int} {f1 : Int} {f2 : List Bool} {f3 : List (List Int)} {α : Type} {d : Kd α} {e : Nat} {base : Nat} {ok : Nat → Prop} {v : Value} {xs : List α} (h : IsS29 w0 W g f0 f1 f2 f3) (ho : d.R e W base ok v xs) (ht : ∀ q, q ∈ e :: d.E → q ≠ 29) : d.R e W base (fun k => ok k ∧ k ≠ g) v xs := by
 obtain ⟨A2, c2, A3, c3, hb, hg, hr2, hr3⟩ := h; exact Kd.R_types ho hb ht
theorem IsS29.own_ne {w0 W : World} {g : Nat} {f0 : Int} {f1 : Int} {f2 : List Bool} {f3 : List (List Int)} {α : Type} {d : Kd α} {e : Nat} {base : Nat} {ok : Nat → Prop} {v : Value} {xs : List α} (h : IsS29 w0 W g f0 f1 f2 f3) (ho : d.R e W base ok v xs) (ht : e ≠ 29) : some g ≠ v.ownBlock := by
 obtain ⟨A2, c2, A3, c3, hb, hg, hr2, hr3⟩ := h; exact Kd.R_ne ho hb ht
theorem IsS29.lt {w0 W : World} {g : Nat} {f0 : Int} {f1 : Int} {f2 : List Bool} {f3 : List (List Int)} (h : IsS29 w0 W g f0 f1 f2 f3) : g < W.heap.size := by
 obtain ⟨A2, c2, A3, c3, hb, hg, hr2, hr3⟩ := h; exact blk_lt hb
theorem IsS29.ge {w0 W : World} {g : Nat} {f0 : Int} {f1 : Int} {f2 : List Bool} {f3 : List (List Int)} (h : IsS29 w0 W g f0 f1 f2 f3) : w0.heap.size ≤ g := by
 obtain ⟨A2, c2, A3, c3, hb, hg, hr2, hr3⟩ := h; exact hg
theorem IsS29.far {w0 W : World} {g : Nat} {f0 : Int} {f1 : Int} {f2 : List Bool} {f3 : List (List Int)} {p : Addr} (h : IsS29 w0 W g f0 f1 f2 f3) (hne : g ≠ p.block) (u : Value) : IsS29 w0 (W.setCell p u) g f0 f1 f2 f3 := by
 obtain ⟨A2, c2, A3, c3, hb, hg, hr2, hr3⟩ := h; exact ⟨A2, c2, A3, c3, blk_far hb hne u, hg, hr2, hr3⟩
theorem cellS29_0 {W : World} {g : Nat} {A2 : Option Addr} {c2 : Nat} {A3 : Option Addr} {c3 : Nat} {f0 : Int} {f1 : Int} {f2 : List Bool} {f3 : List (List Int)} (h : W.heap[g]? = some (.cells #[.int .i64 f0, .int .i64 f1, .slice A2 f2.length c2, .slice A3 f3.length c3] 29 (0, 0))) : W.cell? ⟨g, 0, none⟩ = some (.int .i64 f0) := (blk_cell h 0).trans rfl
theorem IsS29.set_0 {w0 W : World} {g : Nat} {f0 : Int} {f1 : Int} {f2 : List Bool} {f3 : List (List Int)} (h : IsS29 w0 W g f0 f1 f2 f3) (x : Int) : IsS29 w0 (W.setCell ⟨g, 0, none⟩ (.int .i64 x)) g x f1 f2 f3 := by
 obtain ⟨A2, c2, A3, c3, hb, hg, hr2, hr3⟩ := h; exact ⟨A2, c2, A3, c3, by simpa using blk_set hb 0 (.int .i64 x), hg, hr2, hr3⟩
theorem cellS29_1 {W : World} {g : Nat} {A2 : Option Addr} {c2 : Nat} {A3 : Option Addr} {c3 : Nat} {f0 : Int} {f1 : Int} {f2 : List Bool} {f3 : List (List Int)} (h : W.heap[g]? = some (.cells #[.int .i64 f0, .int .i64 f1, .slice A2 f2.length c2, .slice A3 f3.length c3] 29 (0, 0))) : W.cell? ⟨g, 1, none⟩ = some (.int .i64 f1) := (blk_cell h 1).trans rfl
theorem IsS29.set_1 {w0 W : World} {g : Nat} {f0 : Int} {f1 : Int} {f2 : List Bool} {f3 : List (List Int)} (h : IsS29 w0 W g f0 f1 f2 f3) (x : Int) : IsS29 w0 (W.setCell ⟨g, 1, none⟩ (.int .i64 x)) g f0 x f2 f3 := by
 obtain ⟨A2, c2, A3, c3, hb, hg, hr2, hr3⟩ := h; exact ⟨A2, c2, A3, c3, by simpa using blk_set hb 1 (.int .i64 x), hg, hr2, hr3⟩
theorem cellS29_2 {W : World} {g : Nat} {A2 : Option Addr} {c2 : Nat} {A3 : Option Addr} {c3 : Nat} {f0 : Int} {f1 : Int} {f2 : List Bool} {f3 : List (List Int)} (h : W.heap[g]? = some (.cells #[.int .i64 f0, .int .i64 f1, .slice A2 f2.length c2, .slice A3 f3.length c3] 29 (0, 0))) : W.cell? ⟨g, 2, none⟩ = some (.slice A2 f2.length c2) := (blk_cell h 2).trans rfl
theorem cellS29_3 {W : World} {g : Nat} {A2 : Option Addr} {c2 : Nat} {A3 : Option Addr} {c3 : Nat} {f0 : Int} {f1 : Int} {f2 : List Bool} {f3 : List (List Int)} (h : W.heap[g]? = some (.cells #[.int .i64 f0, .int .i64 f1, .slice A2 f2.length c2, .slice A3 f3.length c3] 29 (0, 0))) : W.cell? ⟨g, 3, none⟩ = some (.slice A3 f3.length c3) := (blk_cell h 3).trans rfl
theorem IsS29.new (w0 W : World) (A2 : Option Addr) (c2 : Nat) (A3 : Option Addr) (c3 : Nat) (f0 : Int) (f1 : Int) (f2 : List Bool) (f3 : List (List Int)) (hB : Below w0.heap.size w0 W) (hr2 : Kd.C Kd.bool w0 A2 f2.length f2) (hr3 : Kd.C (Kd.slice 2 (Kd.int .i64)) w0 A3 f3.length f3) : IsS29 w0 (W.alloc (.cells #[.int .i64 f0, .int .i64 f1, .slice A2 f2.length c2, .slice A3 f3.length c3] 29)) W.heap.size f0 f1 f2 f3 := ⟨A2, c2, A3, c3, by simpa using heap_alloc_new W _, hB.size, hr2, hr3⟩
/-- A relation that is read at some address. -/
def IsP29 (w0 W : World) (p0 : Addr) (f0 f1 : Int) (f2 : List Bool) (f3 : List (List Int)) : Prop := ∃ A2 c2, ∃ A3 c3, W.cell? p0 = some (.int .i64 f0) ∧ W.cell? ⟨p0.block, p0.off + 1, none⟩ = some (.int .i64 f1) ∧ W.cell? ⟨p0.block, p0.off + 2, none⟩ = some (.slice A2 f2.length c2) ∧ W.cell? ⟨p0.block, p0.off + 3, none⟩ = some (.slice A3 f3.length c3) ∧ Kd.C Kd.bool w0 A2 f2.length f2 ∧ Kd.C (Kd.slice 2 (Kd.int .i64)) w0 A3 f3.length f3
theorem IsP29.below {w0 W W1 : World} {p0 : Addr} {f0 f1 : Int} {f2 : List Bool} {f3 : List (List Int)} (h : IsP29 w0 W p0 f0 f1 f2 f3) (hb : Below W.heap.size W W1) : IsP29 w0 W1 p0 f0 f1 f2 f3 := by
 obtain ⟨A2, c2, A3, c3, h0, h1, h2, h3, h4⟩ := h; exact ⟨A2, c2, A3, c3, pw_cell_below hb h0, pw_cell_below hb h1, pw_cell_below hb h2, pw_cell_below hb h3, h4⟩
theorem IsP29.drewN {w0 W : World} {p0 : Addr} {f0 f1 : Int} {f2 : List Bool} {f3 : List (List Int)} (h : IsP29 w0 W p0 f0 f1 f2 f3) (n : Nat) : IsP29 w0 (W.drewN n) p0 f0 f1 f2 f3 := h.below (pw_below_drewN (Below.refl _ _) n)
theorem IsP29.drew {w0 W : World} {p0 : Addr} {f0 f1 : Int} {f2 : List Bool} {f3 : List (List Int)} (h : IsP29 w0 W p0 f0 f1 f2 f3) : IsP29 w0 W.drew p0 f0 f1 f2 f3 := h.below (below_drew1 (Below.refl _ _))
theorem IsP29.alloc {w0 W : World} {p0 : Addr} {f0 f1 : Int} {f2 : List Bool} {f3 : List (List Int)} (h : IsP29 w0 W p0 f0 f1 f2 f3) (o : Obj) : IsP29 w0 (W.alloc o) p0 f0 f1 f2 f3 := h.below (below_alloc (Below.refl _ _) o)
mutual
def spec_l01Form.j0 : Nat → Int → Bool → Int → Int → List Bool → List (List Int) → Option (Bool × Int × Int)
 | 0, _, _, _, _, _, _ => none
 | k + 1, x3, x39, x1000, x1001, x1002, x1003 => if x39 = true then (some (false, x1000, x1001)) else (spec_l01Form.l0 k x3 0 x1000 x1001 x1002 x1003)
def spec_l01Form.l0 : Nat → Int → Int → Int → Int → List Bool → List (List Int) → Option (Bool × Int × Int)
 | 0, _, _, _, _, _, _ => none
 | k + 1, x3, x4, x1000, x1001, x1002, x1003 => if x4 < (x1003.length : Int) then (if 0 ≤ x4 then ((spec_l01Wide.f k x1000).bind fun t110 => (if ((rd_L2 x1003 x4).length : Int) = t110 then (spec_l01Form.l1 k x3 x4 0 x1000 x1001 x1002 x1003) else (some (false, x1000, x1001)))) else (none)) else (some (true, x1000, x1001))
def spec_l01Form.l1 : Nat → Int → Int → Int → Int → Int → List Bool → List (List Int) → Option (Bool × Int × Int)
 | 0, _, _, _, _, _, _, _ => none
 | k + 1, x3, x4, x5, x1000, x1001, x1002, x1003 => if 0 ≤ x4 then (if x4 < (x1003.length : Int) then (if x5 < ((rd_L2 x1003 x4).length : Int) then (if 0 ≤ x5 then ((spec_l00In.f (rd (rd_L2 x1003 x4) x5) 0 (wrap64 (x3 - 1))).bind fun t114 => (if t114 = true then (spec_l01Form.l1 k x3 x4 (wrap64 (x5 + 1)) x1000 x1001 x1002 x1003) else (some (false, x1000, x1001)))) else (none)) else (spec_l01Form.l0 k x3 (wrap64 (x4 + 1)) x1000 x1001 x1002 x1003)) else (none)) else (none)
end
def spec_l01Form.f (k : Nat) (s0_0 : Int) (s0_1 : Int) (s0_2 : List Bool) (s0_3 : List (List Int)) : Option (Bool × Int × Int) := (spec_l00In.f s0_0 1 3).bind fun t107 => (if t107 = true then (if (s0_2.length : Int) < 1 then (spec_l01Form.j0 k (s0_2.length : Int) true s0_0 s0_1 s0_2 s0_3) else ((spec_l00In.f s0_1 0 (wrap64 ((s0_2.length : Int) - 1))).bind fun t108 => (if t108 = true then (spec_l01Form.j0 k (s0_2.length : Int) ((s0_3.length : Int) != (s0_2.length : Int)) s0_0 s0_1 s0_2 s0_3) else (spec_l01Form.j0 k (s0_2.length : Int) true s0_0 s0_1 s0_2 s0_3)))) else (spec_l01Form.j0 k (s0_2.length : Int) true s0_0 s0_1 s0_2 s0_3))
theorem spec_l01Form.atcalls (k : Nat) (p0 : Addr) (s0_0 : Int) (s0_1 : Int) (s0_2 : List Bool) (s0_3 : List (List Int)) (r1 : Bool) (r2 : Int) (r3 : Int) (w0 w : World) (hI : IsP29 w0 w p0 s0_0 s0_1 s0_2 s0_3) (hB : Below w0.heap.size w0 w) (h : spec_l01Form.f k s0_0 s0_1 s0_2 s0_3 = some (r1, r2, r3)) :
  Calls Tryd.prog 116 #[.pointer (some p0)] w fun e w' => e = .returned (.bool r1) ∧ IsP29 w0 w' p0 r2 r3 s0_2 s0_3 ∧ Below w0.heap.size w0 w' ∧ KeepBut w w' p0.block none := by
 have HI0 := am hI; have HK := am (KeepBut.refl w p0.block none); have HL := am hB.size; clear hI; have HW0 := am hB.size; have HB := am hB; clear hB; have H : ((spec_l00In.f s0_0 1 3).bind fun t107 => (if t107 = true then (if (s0_2.length : Int) < 1 then (spec_l01Form.j0 k (s0_2.length : Int) true s0_0 s0_1 s0_2 s0_3) else ((spec_l00In.f s0_1 0 (wrap64 ((s0_2.length : Int) - 1))).bind fun t108 => (if t108 = true then (spec_l01Form.j0 k (s0_2.length : Int) ((s0_3.length : Int) != (s0_2.length : Int)) s0_0 s0_1 s0_2 s0_3) else (spec_l01Form.j0 k (s0_2.length : Int) true s0_0 s0_1 s0_2 s0_3)))) else (spec_l01Form.j0 k (s0_2.length : Int) true s0_0 s0_1 s0_2 s0_3))) = some (r1, r2, r3) := h; clear h; have HC2 := am H; clear H; obtain ⟨ASz3_2, cSz3_2, ASz3_3, cSz3_3, hcz3_0, hcz3_1, hcz3_2, hcz3_3, HSz3_2, HSz3_3⟩ := HI0.out; go_enter Tryd.func116, Tryd.ntmps116
 go_upto_region 2 with (fail)
 repeat (go_quiet (fail); go_upto_region 2 with (fail))
 go_cut [39] (fun v39 wc => ∃ (kq : Nat) (x39_1 : Bool), v39 = .bool x39_1 ∧ Aside0 (spec_l01Form.j0 kq (s0_2.length : Int) x39_1 s0_0 s0_1 s0_2 s0_3 = some (r1, r2, r3)) ∧ Aside0 (kq ≤ k) ∧ Aside0 (IsP29 w0 wc p0 s0_0 s0_1 s0_2 s0_3) ∧ Aside0 (KeepBut w wc p0.block none) ∧ Aside0 (Below w0.heap.size w0 wc))
 case first =>
  have H := HC2.out; clear HC2; replace H := Option.bind_eq_some_iff.mp H; obtain ⟨t107, A40, H⟩ := H; replace H : (if t107 = true then (if (s0_2.length : Int) < 1 then (spec_l01Form.j0 k (s0_2.length : Int) true s0_0 s0_1 s0_2 s0_3) else ((spec_l00In.f s0_1 0 (wrap64 ((s0_2.length : Int) - 1))).bind fun t108 => (if t108 = true then (spec_l01Form.j0 k (s0_2.length : Int) ((s0_3.length : Int) != (s0_2.length : Int)) s0_0 s0_1 s0_2 s0_3) else (spec_l01Form.j0 k (s0_2.length : Int) true s0_0 s0_1 s0_2 s0_3)))) else (spec_l01Form.j0 k (s0_2.length : Int) true s0_0 s0_1 s0_2 s0_3)) = some (r1, r2, r3) := H; have A4 := am A40; clear A40; by_cases c5 : t107 = true
  ·subst c5; (have H1 : (if (s0_2.length : Int) < 1 then (spec_l01Form.j0 k (s0_2.length : Int) true s0_0 s0_1 s0_2 s0_3) else ((spec_l00In.f s0_1 0 (wrap64 ((s0_2.length : Int) - 1))).bind fun t108 => (if t108 = true then (spec_l01Form.j0 k (s0_2.length : Int) ((s0_3.length : Int) != (s0_2.length : Int)) s0_0 s0_1 s0_2 s0_3) else (spec_l01Form.j0 k (s0_2.length : Int) true s0_0 s0_1 s0_2 s0_3)))) = some (r1, r2, r3) := by rw [if_pos rfl] at H; exact H); clear H; have H := H1; clear H1; by_cases c6 : (s0_2.length : Int) < 1
   ·rw [if_pos c6] at H; have c6b0 := decide_eq_true c6; have c6b1 : decide (s0_2.length < 1) = true := decide_eq_true (by omega); clear c6
    (first | rw [c6b0] | (simp only [i64_w, i32_w]; rw [c6b0]) | skip)
    have H' := am H; clear H; obtain ⟨ASz7_2, cSz7_2, ASz7_3, cSz7_3, hcz7_0, hcz7_1, hcz7_2, hcz7_3, HSz7_2, HSz7_3⟩ := HI0.out
    go_wp2_with (first | (go_at_call 74; (with_reducible refine (spec_l00In.calls s0_0 1 3 true _ A4.out).mono ?_); rintro e w' ⟨rfl, ⟨nd, rfl⟩⟩; (try first | exact ⟨rfl, _, World.drewN_drewN _ _ _⟩ | exact ⟨rfl, _, Eq.trans (World.drewN_drewN _ _ _) (congrArg (World.drewN _) (Nat.add_assoc _ _ _))⟩)) | go_quiet (first | (go_at_call 74; (with_reducible refine (spec_l00In.calls s0_0 1 3 true _ A4.out).mono ?_); rintro e w' ⟨rfl, ⟨nd, rfl⟩⟩; (try first | exact ⟨rfl, _, World.drewN_drewN _ _ _⟩ | exact ⟨rfl, _, Eq.trans (World.drewN_drewN _ _ _) (congrArg (World.drewN _) (Nat.add_assoc _ _ _))⟩))))
    go_meet
    case rel => exact ⟨_, (true), (tF), H', ⟨by first | omega | exact Nat.le_refl _⟩, ⟨by repeat (first | (with_reducible first | exact HI0.out | apply IsP29.alloc | apply IsP29.drewN | apply IsP29.drew | apply IsP29.set_0 | apply IsP29.set_1) | exact HI0.out)⟩, ⟨tK⟩, ⟨tB⟩⟩
   ·rw [if_neg c6] at H; have c6b0 := decide_eq_false c6; have c6b1 : decide (s0_2.length < 1) = false := decide_eq_false (by omega); clear c6
    (first | rw [c6b0] | (simp only [i64_w, i32_w]; rw [c6b0]) | skip)
    replace H := Option.bind_eq_some_iff.mp H; obtain ⟨t108, A80, H⟩ := H; replace H : (if t108 = true then (spec_l01Form.j0 k (s0_2.length : Int) ((s0_3.length : Int) != (s0_2.length : Int)) s0_0 s0_1 s0_2 s0_3) else (spec_l01Form.j0 k (s0_2.length : Int) true s0_0 s0_1 s0_2 s0_3)) = some (r1, r2, r3) := H; have A8 := am A80; clear A80; by_cases c9 : t108 = true
    ·subst c9; (have H1 : (spec_l01Form.j0 k (s0_2.length : Int) ((s0_3.length : Int) != (s0_2.length : Int)) s0_0 s0_1 s0_2 s0_3) = some (r1, r2, r3) := by rw [if_pos rfl] at H; exact H); clear H; have H := H1; clear H1; have H' := am H; clear H; obtain ⟨ASz10_2, cSz10_2, ASz10_3, cSz10_3, hcz10_0, hcz10_1, hcz10_2, hcz10_3, HSz10_2, HSz10_3⟩ := HI0.out
     go_wp2_with (first | (go_at_call 74; (with_reducible refine (spec_l00In.calls s0_0 1 3 true _ A4.out).mono ?_); rintro e w' ⟨rfl, ⟨nd, rfl⟩⟩; (try first | exact ⟨rfl, _, World.drewN_drewN _ _ _⟩ | exact ⟨rfl, _, Eq.trans (World.drewN_drewN _ _ _) (congrArg (World.drewN _) (Nat.add_assoc _ _ _))⟩)) | (go_at_call 74; (with_reducible refine (spec_l00In.calls s0_1 0 (wrap64 ((s0_2.length : Int) - 1)) true _ A8.out).mono ?_); rintro e w' ⟨rfl, ⟨nd, rfl⟩⟩; (try first | exact ⟨rfl, _, World.drewN_drewN _ _ _⟩ | exact ⟨rfl, _, Eq.trans (World.drewN_drewN _ _ _) (congrArg (World.drewN _) (Nat.add_assoc _ _ _))⟩)) | go_quiet (first | (go_at_call 74; (with_reducible refine (spec_l00In.calls s0_0 1 3 true _ A4.out).mono ?_); rintro e w' ⟨rfl, ⟨nd, rfl⟩⟩; (try first | exact ⟨rfl, _, World.drewN_drewN _ _ _⟩ | exact ⟨rfl, _, Eq.trans (World.drewN_drewN _ _ _) (congrArg (World.drewN _) (Nat.add_assoc _ _ _))⟩)) | (go_at_call 74; (with_reducible refine (spec_l00In.calls s0_1 0 (wrap64 ((s0_2.length : Int) - 1)) true _ A8.out).mono ?_); rintro e w' ⟨rfl, ⟨nd, rfl⟩⟩; (try first | exact ⟨rfl, _, World.drewN_drewN _ _ _⟩ | exact ⟨rfl, _, Eq.trans (World.drewN_drewN _ _ _) (congrArg (World.drewN _) (Nat.add_assoc _ _ _))⟩))))
     go_meet
     case rel => exact ⟨_, (((s0_3.length : Int) != (s0_2.length : Int))), (tF), H', ⟨by first | omega | exact Nat.le_refl _⟩, ⟨by repeat (first | (with_reducible first | exact HI0.out | apply IsP29.alloc | apply IsP29.drewN | apply IsP29.drew | apply IsP29.set_0 | apply IsP29.set_1) | exact HI0.out)⟩, ⟨tK⟩, ⟨tB⟩⟩
    ·replace c9 := Bool.eq_false_iff.mpr c9; subst c9; (have H1 : (spec_l01Form.j0 k (s0_2.length : Int) true s0_0 s0_1 s0_2 s0_3) = some (r1, r2, r3) := by rw [if_neg (show ¬ (false = true) by decide)] at H; exact H); clear H; have H := H1; clear H1; have H' := am H; clear H; obtain ⟨ASz11_2, cSz11_2, ASz11_3, cSz11_3, hcz11_0, hcz11_1, hcz11_2, hcz11_3, HSz11_2, HSz11_3⟩ := HI0.out
     go_wp2_with (first | (go_at_call 74; (with_reducible refine (spec_l00In.calls s0_0 1 3 true _ A4.out).mono ?_); rintro e w' ⟨rfl, ⟨nd, rfl⟩⟩; (try first | exact ⟨rfl, _, World.drewN_drewN _ _ _⟩ | exact ⟨rfl, _, Eq.trans (World.drewN_drewN _ _ _) (congrArg (World.drewN _) (Nat.add_assoc _ _ _))⟩)) | (go_at_call 74; (with_reducible refine (spec_l00In.calls s0_1 0 (wrap64 ((s0_2.length : Int) - 1)) false _ A8.out).mono ?_); rintro e w' ⟨rfl, ⟨nd, rfl⟩⟩; (try first | exact ⟨rfl, _, World.drewN_drewN _ _ _⟩ | exact ⟨rfl, _, Eq.trans (World.drewN_drewN _ _ _) (congrArg (World.drewN _) (Nat.add_assoc _ _ _))⟩)) | go_quiet (first | (go_at_call 74; (with_reducible refine (spec_l00In.calls s0_0 1 3 true _ A4.out).mono ?_); rintro e w' ⟨rfl, ⟨nd, rfl⟩⟩; (try first | exact ⟨rfl, _, World.drewN_drewN _ _ _⟩ | exact ⟨rfl, _, Eq.trans (World.drewN_drewN _ _ _) (congrArg (World.drewN _) (Nat.add_assoc _ _ _))⟩)) | (go_at_call 74; (with_reducible refine (spec_l00In.calls s0_1 0 (wrap64 ((s0_2.length : Int) - 1)) false _ A8.out).mono ?_); rintro e w' ⟨rfl, ⟨nd, rfl⟩⟩; (try first | exact ⟨rfl, _, World.drewN_drewN _ _ _⟩ | exact ⟨rfl, _, Eq.trans (World.drewN_drewN _ _ _) (congrArg (World.drewN _) (Nat.add_assoc _ _ _))⟩))))
     go_meet
     case rel => exact ⟨_, (true), (tF), H', ⟨by first | omega | exact Nat.le_refl _⟩, ⟨by repeat (first | (with_reducible first | exact HI0.out | apply IsP29.alloc | apply IsP29.drewN | apply IsP29.drew | apply IsP29.set_0 | apply IsP29.set_1) | exact HI0.out)⟩, ⟨tK⟩, ⟨tB⟩⟩
  ·replace c5 := Bool.eq_false_iff.mpr c5; subst c5; (have H1 : (spec_l01Form.j0 k (s0_2.length : Int) true s0_0 s0_1 s0_2 s0_3) = some (r1, r2, r3) := by rw [if_neg (show ¬ (false = true) by decide)] at H; exact H); clear H; have H := H1; clear H1; have H' := am H; clear H; obtain ⟨ASz12_2, cSz12_2, ASz12_3, cSz12_3, hcz12_0, hcz12_1, hcz12_2, hcz12_3, HSz12_2, HSz12_3⟩ := HI0.out
   go_wp2_with (first | (go_at_call 74; (with_reducible refine (spec_l00In.calls s0_0 1 3 false _ A4.out).mono ?_); rintro e w' ⟨rfl, ⟨nd, rfl⟩⟩; (try first | exact ⟨rfl, _, World.drewN_drewN _ _ _⟩ | exact ⟨rfl, _, Eq.trans (World.drewN_drewN _ _ _) (congrArg (World.drewN _) (Nat.add_assoc _ _ _))⟩)) | go_quiet (first | (go_at_call 74; (with_reducible refine (spec_l00In.calls s0_0 1 3 false _ A4.out).mono ?_); rintro e w' ⟨rfl, ⟨nd, rfl⟩⟩; (try first | exact ⟨rfl, _, World.drewN_drewN _ _ _⟩ | exact ⟨rfl, _, Eq.trans (World.drewN_drewN _ _ _) (congrArg (World.drewN _) (Nat.add_assoc _ _ _))⟩))))
   go_meet
   case rel => exact ⟨_, (true), (tF), H', ⟨by first | omega | exact Nat.le_refl _⟩, ⟨by repeat (first | (with_reducible first | exact HI0.out | apply IsP29.alloc | apply IsP29.drewN | apply IsP29.drew | apply IsP29.set_0 | apply IsP29.set_1) | exact HI0.out)⟩, ⟨tK⟩, ⟨tB⟩⟩
 case rest =>
  clear HC2
  try clear c1; try clear p2; try clear c5; try clear c6; try clear c6b0; try clear c6b1; try clear p6; try clear c9; try clear c11; try clear hcz10_0; try clear hcz10_1; try clear hcz10_2; try clear hcz10_3; try clear hcz11_0; try clear hcz11_1; try clear hcz11_2; try clear hcz11_3; try clear hcz12_0; try clear hcz12_1; try clear hcz12_2; try clear hcz12_3; try clear hcz3_0; try clear hcz3_1; try clear hcz3_2; try clear hcz3_3; try clear hcz7_0; try clear hcz7_1; try clear hcz7_2; try clear hcz7_3; try clear hfz10_0; try clear hfz10_1; try clear hfz11_0; try clear hfz11_1; try clear hfz12_0; try clear hfz12_1; try clear hfz3_0; try clear hfz3_1; try clear hfz7_0; try clear hfz7_1
  obtain ⟨kq, x39_1, rfl, HA, HJ1, HI0, HK, HB⟩ := hcut
  cases kq with
  | zero => exact absurd HA.out (by simp [spec_l01Form.j0])
  | succ kj1 =>
   have H := HA.out; clear HA; simp only [spec_l01Form.j0] at H; by_cases c13 : x39_1 = true
   ·subst c13; (have H1 : (some (false, s0_0, s0_1)) = some (r1, r2, r3) := by rw [if_pos rfl] at H; exact H); clear H; have H := H1; clear H1; simp only [Option.some.injEq, Prod.mk.injEq] at H; obtain ⟨rfl, rfl, rfl⟩ := H; go_wp2
    repeat (go_quiet (fail); try go_wp2)
    go_ret; exact ⟨tE, by repeat (first | (with_reducible first | exact HI0.out | apply IsP29.alloc | apply IsP29.drewN | apply IsP29.drew | apply IsP29.set_0 | apply IsP29.set_1) | exact HI0.out), tB, tK⟩
   ·replace c13 := Bool.eq_false_iff.mpr c13; subst c13; (have H1 : (spec_l01Form.l0 kj1 (s0_2.length : Int) 0 s0_0 s0_1 s0_2 s0_3) = some (r1, r2, r3) := by rw [if_neg (show ¬ (false = true) by decide)] at H; exact H); clear H; have H := H1; clear H1; have H' := am H; clear H; go_wp2
    repeat (go_quiet (fail); try go_wp2)
    go_loopg [4] kj1 (fun kq v4 w' => ∃ (x4_2 : Int), v4 = .int .i64 x4_2 ∧ Aside0 (spec_l01Form.l0 kq (s0_2.length : Int) x4_2 s0_0 s0_1 s0_2 s0_3 = some (r1, r2, r3)) ∧ Aside0 (kq ≤ kj1) ∧ Aside0 (IsP29 w0 w' p0 s0_0 s0_1 s0_2 s0_3) ∧ Aside0 (KeepBut w w' p0.block none) ∧ Aside0 (Below w0.heap.size w0 w'))
    case atStart => exact ⟨(0), (tF), H', ⟨Nat.le_refl _⟩, ⟨by repeat (first | (with_reducible first | exact HI0.out | apply IsP29.alloc | apply IsP29.drewN | apply IsP29.drew | apply IsP29.set_0 | apply IsP29.set_1) | exact HI0.out)⟩, ⟨tK⟩, ⟨tB⟩⟩
    case round =>
     clear H'
     try clear c1; try clear p2; try clear c5; try clear c6; try clear c6b0; try clear c6b1; try clear p6; try clear c9; try clear c11; try clear c13; try clear hcz10_0; try clear hcz10_1; try clear hcz10_2; try clear hcz10_3; try clear hcz11_0; try clear hcz11_1; try clear hcz11_2; try clear hcz11_3; try clear hcz12_0; try clear hcz12_1; try clear hcz12_2; try clear hcz12_3; try clear hcz3_0; try clear hcz3_1; try clear hcz3_2; try clear hcz3_3; try clear hcz7_0; try clear hcz7_1; try clear hcz7_2; try clear hcz7_3; try clear hfz10_0; try clear hfz10_1; try clear hfz11_0; try clear hfz11_1; try clear hfz12_0; try clear hfz12_1; try clear hfz3_0; try clear hfz3_1; try clear hfz7_0; try clear hfz7_1; try clear p2; try clear p6
     obtain ⟨x4_2, rfl, HA, HK2, HI0, HK, HB⟩ := hrel
     cases gk with
     | zero => exact absurd HA.out (by simp [spec_l01Form.l0])
     | succ k2 =>
      have H := HA.out; clear HA; simp only [spec_l01Form.l0] at H; by_cases c14 : x4_2 < (s0_3.length : Int)
      ·rw [if_pos c14] at H; have c14b0 := decide_eq_true c14; clear c14; by_cases c15 : 0 ≤ x4_2
       ·rw [if_pos c15] at H; have c15b0 := decide_eq_true c15; clear c15; replace H := Option.bind_eq_some_iff.mp H; obtain ⟨t110, A160, H⟩ := H; replace H : (if ((rd_L2 s0_3 x4_2).length : Int) = t110 then (spec_l01Form.l1 k2 (s0_2.length : Int) x4_2 0 s0_0 s0_1 s0_2 s0_3) else (some (false, s0_0, s0_1))) = some (r1, r2, r3) := H; have A16 := am A160; clear A160; by_cases c17 : ((rd_L2 s0_3 x4_2).length : Int) = t110
        ·rw [if_pos c17] at H; have c17b0 : (((rd_L2 s0_3 x4_2).length : Int) == t110) = true := beq_iff_eq.mpr c17; have c17b1 : (((rd_L2 s0_3 x4_2).length : Int) != t110) = false := bne_eq_false_iff_eq.mpr c17; clear c17; have H' := am H; clear H; obtain ⟨ASz18_2, cSz18_2, ASz18_3, cSz18_3, hcz18_0, hcz18_1, hcz18_2, hcz18_3, HSz18_2, HSz18_3⟩ := HI0.out; have p109 : 0 ≤ (x4_2 : Int) := oA; have q109 : x4_2 < (s0_3.length : Int) := oA; obtain ⟨ad109, A109_0, c109_0, e109, hx109_0, hl109_0, hi109_0⟩ := at_L2 HSz18_3 x4_2 p109 q109; cases e109; replace hx109_0 := pw_cell_below HB.out hx109_0; have HR109_0 := am hi109_0; have HC109_0 := am hl109_0; clear hi109_0 hl109_0; replace p109 := eq_true p109; replace q109 := eq_true q109
         go_wp2_with (first | (go_at_call 76; (with_reducible refine (spec_l01Wide.calls k2 s0_0 t110 _ A16.out).mono ?_); rintro e w' ⟨rfl, ⟨nd, rfl⟩⟩; (try first | exact ⟨rfl, _, World.drewN_drewN _ _ _⟩ | exact ⟨rfl, _, Eq.trans (World.drewN_drewN _ _ _) (congrArg (World.drewN _) (Nat.add_assoc _ _ _))⟩)) | go_quiet (first | (go_at_call 76; (with_reducible refine (spec_l01Wide.calls k2 s0_0 t110 _ A16.out).mono ?_); rintro e w' ⟨rfl, ⟨nd, rfl⟩⟩; (try first | exact ⟨rfl, _, World.drewN_drewN _ _ _⟩ | exact ⟨rfl, _, Eq.trans (World.drewN_drewN _ _ _) (congrArg (World.drewN _) (Nat.add_assoc _ _ _))⟩))))
         go_loopg [5] k2 (fun kq v5 w' => ∃ (x5_3 : Int), v5 = .int .i64 x5_3 ∧ Aside0 (spec_l01Form.l1 kq (s0_2.length : Int) x4_2 x5_3 s0_0 s0_1 s0_2 s0_3 = some (r1, r2, r3)) ∧ Aside0 (kq ≤ k2) ∧ Aside0 (Kd.C (Kd.int .i64) w' A109_0 (rd_L2 s0_3 x4_2).length (rd_L2 s0_3 x4_2)) ∧ Aside0 (IsP29 w0 w' p0 s0_0 s0_1 s0_2 s0_3) ∧ Aside0 (KeepBut w w' p0.block none) ∧ Aside0 (Below w0.heap.size w0 w'))
         case atStart => exact ⟨(0), (tF), H', ⟨Nat.le_refl _⟩, ⟨by repeat (first | (with_reducible exact HR109_0.out) | (with_reducible exact Kd.C_below HR109_0.out HB.out) | (with_reducible refine Kd.C_alloc ?_ _) | (with_reducible refine Kd.C_drewN ?_ _) | (with_reducible refine Kd.C_drew ?_) | exact HR109_0.out)⟩, ⟨by repeat (first | (with_reducible first | exact HI0.out | apply IsP29.alloc | apply IsP29.drewN | apply IsP29.drew | apply IsP29.set_0 | apply IsP29.set_1) | exact HI0.out)⟩, ⟨tK⟩, ⟨tB⟩⟩
         case round =>
          clear H'
          try clear c1; try clear p1; try clear q1; try clear hx1; try clear p2; try clear c5; try clear c6; try clear c6b0; try clear c6b1; try clear p6; try clear c9; try clear c10; try clear p10; try clear q10; try clear hx10; try clear c11; try clear c13; try clear c14; try clear c14b0; try clear c15; try clear c15b0; try clear c17; try clear c17b0; try clear c17b1; try clear hcz10_0; try clear hcz10_1; try clear hcz10_2; try clear hcz10_3; try clear hcz11_0; try clear hcz11_1; try clear hcz11_2; try clear hcz11_3; try clear hcz12_0; try clear hcz12_1; try clear hcz12_2; try clear hcz12_3; try clear hcz18_0; try clear hcz18_1; try clear hcz18_2; try clear hcz18_3; try clear hcz3_0; try clear hcz3_1; try clear hcz3_2; try clear hcz3_3; try clear hcz7_0; try clear hcz7_1; try clear hcz7_2; try clear hcz7_3; try clear hfz10_0; try clear hfz10_1; try clear hfz11_0; try clear hfz11_1; try clear hfz12_0; try clear hfz12_1; try clear hfz18_0; try clear hfz18_1; try clear hfz3_0; try clear hfz3_1; try clear hfz7_0; try clear hfz7_1; try clear hx109_0; try clear p109; try clear p2; try clear p6; try clear q109
          obtain ⟨x5_3, rfl, HA, HK3, HR109_0, HI0, HK, HB⟩ := hrel
          cases gk with
          | zero => exact absurd HA.out (by simp [spec_l01Form.l1])
          | succ k3 =>
           have H := HA.out; clear HA; simp only [spec_l01Form.l1] at H; by_cases c19 : 0 ≤ x4_2
           ·rw [if_pos c19] at H; have c19b0 := decide_eq_true c19; clear c19; by_cases c20 : x4_2 < (s0_3.length : Int)
            ·rw [if_pos c20] at H; have c20b0 := decide_eq_true c20; clear c20; by_cases c21 : x5_3 < ((rd_L2 s0_3 x4_2).length : Int)
             ·rw [if_pos c21] at H; have c21b0 := decide_eq_true c21; clear c21; by_cases c22 : 0 ≤ x5_3
              ·rw [if_pos c22] at H; have c22b0 := decide_eq_true c22; clear c22; replace H := Option.bind_eq_some_iff.mp H; obtain ⟨t114, A230, H⟩ := H; replace H : (if t114 = true then (spec_l01Form.l1 k3 (s0_2.length : Int) x4_2 (wrap64 (x5_3 + 1)) s0_0 s0_1 s0_2 s0_3) else (some (false, s0_0, s0_1))) = some (r1, r2, r3) := H; have A23 := am A230; clear A230; by_cases c24 : t114 = true
               ·subst c24; (have H1 : (spec_l01Form.l1 k3 (s0_2.length : Int) x4_2 (wrap64 (x5_3 + 1)) s0_0 s0_1 s0_2 s0_3) = some (r1, r2, r3) := by rw [if_pos rfl] at H; exact H); clear H; have H := H1; clear H1; have H' := am H; clear H; obtain ⟨ASz25_2, cSz25_2, ASz25_3, cSz25_3, hcz25_0, hcz25_1, hcz25_2, hcz25_3, HSz25_2, HSz25_3⟩ := HI0.out; have p111 : 0 ≤ (x4_2 : Int) := oA; have q111 : x4_2 < (s0_3.length : Int) := oA; obtain ⟨ad111, A111_0, c111_0, e111, hx111_0, hl111_0, hi111_0⟩ := at_L2 HSz25_3 x4_2 p111 q111; cases e111; replace hx111_0 := pw_cell_below HB.out hx111_0; have HR111_0 := am hi111_0; have HC111_0 := am hl111_0; clear hi111_0 hl111_0; replace p111 := eq_true p111; replace q111 := eq_true q111; have p112 : 0 ≤ (x4_2 : Int) := oA; have q112 : x4_2 < (s0_3.length : Int) := oA; obtain ⟨ad112, A112_0, c112_0, e112, hx112_0, hl112_0, hi112_0⟩ := at_L2 HSz25_3 x4_2 p112 q112; obtain rfl : ad111 = ad112 := (by injection e112); replace hx112_0 := pw_cell_below HB.out hx112_0
                try (have hxe_ := hx111_0.symm.trans hx112_0; injection hxe_ with hxe_; injection hxe_ with hA_ hl_ hc_; subst hA_; subst hc_)
                have HR112_0 := am hi112_0; have HC112_0 := am hl112_0; clear hi112_0 hl112_0; replace p112 := eq_true p112; replace q112 := eq_true q112; have p113 : 0 ≤ (x5_3 : Int) := oA; have q113 : x5_3 < ((rd_L2 s0_3 x4_2).length : Int) := oA; obtain ⟨ad113, e113, hx113_0⟩ := Kd.at_int HR112_0.out x5_3 p113 q113; cases e113; replace hx113_0 := (by first | exact keep_cell HK.out hx113_0 (by first | (rw [add_block]; exact hf112_0 _ rfl (by omega)) | exact hf112_0 _ rfl (by omega) | exact hf112_0 ad113 rfl (by omega)) | exact pw_cell_below HB.out hx113_0); replace p113 := eq_true p113; replace q113 := eq_true q113
                go_wp2_with (first | (go_at_call 74; (with_reducible refine (spec_l00In.calls (rd (rd_L2 s0_3 x4_2) x5_3) 0 (wrap64 ((s0_2.length : Int) - 1)) true _ A23.out).mono ?_); rintro e w' ⟨rfl, ⟨nd, rfl⟩⟩; (try first | exact ⟨rfl, _, World.drewN_drewN _ _ _⟩ | exact ⟨rfl, _, Eq.trans (World.drewN_drewN _ _ _) (congrArg (World.drewN _) (Nat.add_assoc _ _ _))⟩)) | go_quiet (first | (go_at_call 74; (with_reducible refine (spec_l00In.calls (rd (rd_L2 s0_3 x4_2) x5_3) 0 (wrap64 ((s0_2.length : Int) - 1)) true _ A23.out).mono ?_); rintro e w' ⟨rfl, ⟨nd, rfl⟩⟩; (try first | exact ⟨rfl, _, World.drewN_drewN _ _ _⟩ | exact ⟨rfl, _, Eq.trans (World.drewN_drewN _ _ _) (congrArg (World.drewN _) (Nat.add_assoc _ _ _))⟩))))
                go_roundg k3
                case measure => have := HJ1.out; have := HK2.out; have := HK3.out; omega
                case rel => exact ⟨(wrap64 (x5_3 + 1)), (tF), H', ⟨by have := HJ1.out; have := HK2.out; have := HK3.out; omega⟩, ⟨by repeat (first | (with_reducible exact HR109_0.out) | (with_reducible exact Kd.C_below HR109_0.out HB.out) | (with_reducible refine Kd.C_alloc ?_ _) | (with_reducible refine Kd.C_drewN ?_ _) | (with_reducible refine Kd.C_drew ?_) | exact HR109_0.out)⟩, ⟨by repeat (first | (with_reducible first | exact HI0.out | apply IsP29.alloc | apply IsP29.drewN | apply IsP29.drew | apply IsP29.set_0 | apply IsP29.set_1) | exact HI0.out)⟩, ⟨tK⟩, ⟨tB⟩⟩
               ·replace c24 := Bool.eq_false_iff.mpr c24; subst c24; (have H1 : (some (false, s0_0, s0_1)) = some (r1, r2, r3) := by rw [if_neg (show ¬ (false = true) by decide)] at H; exact H); clear H; have H := H1; clear H1; simp only [Option.some.injEq, Prod.mk.injEq] at H; obtain ⟨rfl, rfl, rfl⟩ := H; obtain ⟨ASz26_2, cSz26_2, ASz26_3, cSz26_3, hcz26_0, hcz26_1, hcz26_2, hcz26_3, HSz26_2, HSz26_3⟩ := HI0.out; have p111 : 0 ≤ (x4_2 : Int) := oA; have q111 : x4_2 < (s0_3.length : Int) := oA; obtain ⟨ad111, A111_0, c111_0, e111, hx111_0, hl111_0, hi111_0⟩ := at_L2 HSz26_3 x4_2 p111 q111; cases e111; replace hx111_0 := pw_cell_below HB.out hx111_0; have HR111_0 := am hi111_0; have HC111_0 := am hl111_0; clear hi111_0 hl111_0; replace p111 := eq_true p111; replace q111 := eq_true q111; have p112 : 0 ≤ (x4_2 : Int) := oA; have q112 : x4_2 < (s0_3.length : Int) := oA; obtain ⟨ad112, A112_0, c112_0, e112, hx112_0, hl112_0, hi112_0⟩ := at_L2 HSz26_3 x4_2 p112 q112; obtain rfl : ad111 = ad112 := (by injection e112); replace hx112_0 := pw_cell_below HB.out hx112_0
                try (have hxe_ := hx111_0.symm.trans hx112_0; injection hxe_ with hxe_; injection hxe_ with hA_ hl_ hc_; subst hA_; subst hc_)
                have HR112_0 := am hi112_0; have HC112_0 := am hl112_0; clear hi112_0 hl112_0; replace p112 := eq_true p112; replace q112 := eq_true q112; have p113 : 0 ≤ (x5_3 : Int) := oA; have q113 : x5_3 < ((rd_L2 s0_3 x4_2).length : Int) := oA; obtain ⟨ad113, e113, hx113_0⟩ := Kd.at_int HR112_0.out x5_3 p113 q113; cases e113; replace hx113_0 := (by first | exact keep_cell HK.out hx113_0 (by first | (rw [add_block]; exact hf112_0 _ rfl (by omega)) | exact hf112_0 _ rfl (by omega) | exact hf112_0 ad113 rfl (by omega)) | exact pw_cell_below HB.out hx113_0); replace p113 := eq_true p113; replace q113 := eq_true q113
                go_wp2_with (first | (go_at_call 74; (with_reducible refine (spec_l00In.calls (rd (rd_L2 s0_3 x4_2) x5_3) 0 (wrap64 ((s0_2.length : Int) - 1)) false _ A23.out).mono ?_); rintro e w' ⟨rfl, ⟨nd, rfl⟩⟩; (try first | exact ⟨rfl, _, World.drewN_drewN _ _ _⟩ | exact ⟨rfl, _, Eq.trans (World.drewN_drewN _ _ _) (congrArg (World.drewN _) (Nat.add_assoc _ _ _))⟩)) | go_quiet (first | (go_at_call 74; (with_reducible refine (spec_l00In.calls (rd (rd_L2 s0_3 x4_2) x5_3) 0 (wrap64 ((s0_2.length : Int) - 1)) false _ A23.out).mono ?_); rintro e w' ⟨rfl, ⟨nd, rfl⟩⟩; (try first | exact ⟨rfl, _, World.drewN_drewN _ _ _⟩ | exact ⟨rfl, _, Eq.trans (World.drewN_drewN _ _ _) (congrArg (World.drewN _) (Nat.add_assoc _ _ _))⟩))))
                go_ret; exact ⟨tE, by repeat (first | (with_reducible first | exact HI0.out | apply IsP29.alloc | apply IsP29.drewN | apply IsP29.drew | apply IsP29.set_0 | apply IsP29.set_1) | exact HI0.out), tB, tK⟩
              ·rw [if_neg c22] at H; exact absurd H (by simp)
             ·rw [if_neg c21] at H; have c21b0 := decide_eq_false c21; clear c21; have H' := am H; clear H; obtain ⟨ASz27_2, cSz27_2, ASz27_3, cSz27_3, hcz27_0, hcz27_1, hcz27_2, hcz27_3, HSz27_2, HSz27_3⟩ := HI0.out; have p111 : 0 ≤ (x4_2 : Int) := oA; have q111 : x4_2 < (s0_3.length : Int) := oA; obtain ⟨ad111, A111_0, c111_0, e111, hx111_0, hl111_0, hi111_0⟩ := at_L2 HSz27_3 x4_2 p111 q111; cases e111; replace hx111_0 := pw_cell_below HB.out hx111_0; have HR111_0 := am hi111_0; have HC111_0 := am hl111_0; clear hi111_0 hl111_0; replace p111 := eq_true p111; replace q111 := eq_true q111; go_wp2
              repeat (go_quiet (fail); try go_wp2)
              go_roundg k3
              case measure => have := HJ1.out; have := HK2.out; have := HK3.out; omega
              case rel => exact ⟨(wrap64 (x4_2 + 1)), (tF), H', ⟨by have := HJ1.out; have := HK2.out; have := HK3.out; omega⟩, ⟨by repeat (first | (with_reducible first | exact HI0.out | apply IsP29.alloc | apply IsP29.drewN | apply IsP29.drew | apply IsP29.set_0 | apply IsP29.set_1) | exact HI0.out)⟩, ⟨tK⟩, ⟨tB⟩⟩
            ·rw [if_neg c20] at H; exact absurd H (by simp)
           ·rw [if_neg c19] at H; exact absurd H (by simp)
        ·rw [if_neg c17] at H; have c17b0 : (((rd_L2 s0_3 x4_2).length : Int) == t110) = false := beq_eq_false_iff_ne.mpr c17; have c17b1 : (((rd_L2 s0_3 x4_2).length : Int) != t110) = true := bne_iff_ne.mpr c17; simp only [Option.some.injEq, Prod.mk.injEq] at H; obtain ⟨rfl, rfl, rfl⟩ := H; obtain ⟨ASz28_2, cSz28_2, ASz28_3, cSz28_3, hcz28_0, hcz28_1, hcz28_2, hcz28_3, HSz28_2, HSz28_3⟩ := HI0.out; have p109 : 0 ≤ (x4_2 : Int) := oA; have q109 : x4_2 < (s0_3.length : Int) := oA; obtain ⟨ad109, A109_0, c109_0, e109, hx109_0, hl109_0, hi109_0⟩ := at_L2 HSz28_3 x4_2 p109 q109; cases e109; replace hx109_0 := pw_cell_below HB.out hx109_0; have HR109_0 := am hi109_0; have HC109_0 := am hl109_0; clear hi109_0 hl109_0; replace p109 := eq_true p109; replace q109 := eq_true q109
         go_wp2_with (first | (go_at_call 76; (with_reducible refine (spec_l01Wide.calls k2 s0_0 t110 _ A16.out).mono ?_); rintro e w' ⟨rfl, ⟨nd, rfl⟩⟩; (try first | exact ⟨rfl, _, World.drewN_drewN _ _ _⟩ | exact ⟨rfl, _, Eq.trans (World.drewN_drewN _ _ _) (congrArg (World.drewN _) (Nat.add_assoc _ _ _))⟩)) | go_quiet (first | (go_at_call 76; (with_reducible refine (spec_l01Wide.calls k2 s0_0 t110 _ A16.out).mono ?_); rintro e w' ⟨rfl, ⟨nd, rfl⟩⟩; (try first | exact ⟨rfl, _, World.drewN_drewN _ _ _⟩ | exact ⟨rfl, _, Eq.trans (World.drewN_drewN _ _ _) (congrArg (World.drewN _) (Nat.add_assoc _ _ _))⟩))))
         go_ret; exact ⟨tE, by repeat (first | (with_reducible first | exact HI0.out | apply IsP29.alloc | apply IsP29.drewN | apply IsP29.drew | apply IsP29.set_0 | apply IsP29.set_1) | exact HI0.out), tB, tK⟩
       ·rw [if_neg c15] at H; exact absurd H (by simp)
      ·rw [if_neg c14] at H; have c14b0 := decide_eq_false c14; clear c14; simp only [Option.some.injEq, Prod.mk.injEq] at H; obtain ⟨rfl, rfl, rfl⟩ := H; obtain ⟨ASz29_2, cSz29_2, ASz29_3, cSz29_3, hcz29_0, hcz29_1, hcz29_2, hcz29_3, HSz29_2, HSz29_3⟩ := HI0.out; go_wp2
       repeat (go_quiet (fail); try go_wp2)
       go_ret; exact ⟨tE, by repeat (first | (with_reducible first | exact HI0.out | apply IsP29.alloc | apply IsP29.drewN | apply IsP29.drew | apply IsP29.set_0 | apply IsP29.set_1) | exact HI0.out), tB, tK⟩
def spec_l01Digit.f (k : Nat) (a0 : Int) (a1 : Int) : Option (Int) := (spec_l01Power.f k a1).bind fun t128 => (if t128 = 0 then (none) else (some (Int.tmod (wrap64 (Int.tdiv a0 t128)) 3)))
theorem spec_l01Digit.mono : ∀ a0 a1 k, LeO (spec_l01Digit.f k a0 a1) (spec_l01Digit.f (k + 1) a0 a1) := by
 intro a0 a1 k; unfold spec_l01Digit.f
 repeat' first
   | (with_reducible exact spec_l01Power.mono _ _)
   | (with_reducible exact LeO.refl _)
   | (with_reducible exact LeO.none _)
   | (with_reducible refine LeO.ite ?_ ?_)
   | (with_reducible refine LeO.bind ?_ (fun _ => ?_))
   | exact spec_l01Power.mono _ _
   | exact LeO.none _
   | refine LeO.ite ?_ ?_
   | refine LeO.bind ?_ (fun _ => ?_)
theorem spec_l01Digit.calls (k : Nat) (a0 : Int) (a1 : Int) (r : Int) (w : World) (h : spec_l01Digit.f k a0 a1 = some r) :
  Calls Tryd.prog 77 #[.int .i64 a0, .int .i64 a1] w fun e w' => e = .returned (.int .i64 r) ∧ Drawn0 w w' := by
 have H : ((spec_l01Power.f k a1).bind fun t128 => (if t128 = 0 then (none) else (some (Int.tmod (wrap64 (Int.tdiv a0 t128)) 3)))) = some r := h; clear h; replace H := Option.bind_eq_some_iff.mp H; obtain ⟨t128, A30, H⟩ := H; replace H : (if t128 = 0 then (none) else (some (Int.tmod (wrap64 (Int.tdiv a0 t128)) 3))) = some r := H; have A3 := am A30; clear A30; by_cases c4 : t128 = 0
 ·rw [if_pos c4] at H; exact absurd H (by simp)
 ·rw [if_neg c4] at H; have c4b0 : (t128 == 0) = false := beq_eq_false_iff_ne.mpr c4; have c4b1 : (t128 != 0) = true := bne_iff_ne.mpr c4; obtain rfl := Option.some.inj H; go_enter Tryd.func77, Tryd.ntmps77
  go_wp2_with (first | ((with_reducible refine gate_callee (f := 123) rfl ?_); refine goesLA (some 7) Tryd.func123 #[.int .i64 a1] rfl rfl rfl (h := ?_); (with_reducible refine (spec_l01Power.calls k a1 t128 _ A3.out).mono ?_); rintro e w' ⟨rfl, ⟨nd, rfl⟩⟩; refine ⟨_, rfl, ?_⟩))
  go_ret; exact ⟨tF, tD⟩
def spec_l01Ended.l0 (k : Nat) (c : Int) : Nat → Nat → Int → Option Int
 | 0, _, e => some e
 | m + 1, t, e => (spec_l01Digit.f k c (t : Int)).bind fun d => if d = 2 then spec_l01Ended.l0 k c m (t + 1) (bits .or .i64 e (wrap64 (2 ^ t))) else if bits .and .i64 (e / 2 ^ t) 1 = 1 then some (-1) else spec_l01Ended.l0 k c m (t + 1) e
def spec_l01Ended.f (k : Nat) (a0 : Int) (a1 : Int) (a2 : Int) : Option (Int) := if 0 ≤ a0 ∧ a0 ≤ 3 then spec_l01Ended.l0 k a2 a0.toNat 0 a1 else none
theorem spec_l01Ended.mono_l : ∀ k y0 y1 y2 y3, LeO (spec_l01Ended.l0 k y0 y1 y2 y3) (spec_l01Ended.l0 (k + 1) y0 y1 y2 y3) := by
 intro k y0 y1
 induction y1 with
 | zero => intro y2 y3; exact LeO.refl _
 | succ m ih =>
  intro y2 y3; simp only [spec_l01Ended.l0]; refine LeO.bind (spec_l01Digit.mono _ _ _) (fun d => ?_); refine LeO.ite (ih _ _) (LeO.ite (LeO.refl _) (ih _ _))
theorem spec_l01Ended.mono : ∀ a0 a1 a2 k, LeO (spec_l01Ended.f k a0 a1 a2) (spec_l01Ended.f (k + 1) a0 a1 a2) := by
 intro a0 a1 a2 k; unfold spec_l01Ended.f; exact LeO.ite (spec_l01Ended.mono_l _ _ _ _ _) (LeO.refl _)
theorem spec_l01Ended.calls (k : Nat) (a0 : Int) (a1 : Int) (a2 : Int) (r : Int) (w : World) (h : spec_l01Ended.f k a0 a1 a2 = some r) :
  Calls Tryd.prog 136 #[.int .i64 a0, .int .i64 a1, .int .i64 a2] w fun e w' => e = .returned (.int .i64 r) ∧ Drawn0 w w' := by
 unfold spec_l01Ended.f at h; by_cases h0 : 0 ≤ a0 ∧ a0 ≤ 3
 ·rw [if_pos h0] at h; obtain ⟨n, rfl⟩ : ∃ n : Nat, a0 = (n : Int) := ⟨a0.toNat, by omega⟩; (have hn : n ≤ 3 := by omega); have H := am (show spec_l01Ended.l0 k a2 n 0 a1 = some r by simpa using h); clear h h0; go_enter Tryd.func136, Tryd.ntmps136; go_wp2
  go_loopg [1, 7] n (fun kq v1 v7 w' => ∃ (e : Int) (t : Nat), v1 = .int .i64 e ∧ v7 = .int .i64 (t : Int) ∧ Aside0 (spec_l01Ended.l0 k a2 kq t e = some r) ∧ Aside0 (t + kq = n) ∧ Drawn0 w w')
  case atStart => exact ⟨a1, 0, rfl, by simp, H, ⟨by omega⟩, tD⟩
  case round =>
   clear H; obtain ⟨e, t, rfl, rfl, H, HK, ⟨m1, rfl⟩⟩ := hrel
   cases gk with
   | zero =>
    (have ht : t = n := by have := HK.out; omega); subst ht; obtain rfl : e = r := Option.some.inj H.out; have c1 : decide ((t : Int) < (t : Int)) = false := decide_eq_false (by omega); have c2 : decide (t < t) = false := decide_eq_false (by omega); clear H HK; go_wp2; go_ret; exact ⟨rfl, tD⟩
   | succ k1 =>
    (have ht : t < n := by have := HK.out; omega); have c1 : decide ((t : Int) < (n : Int)) = true := decide_eq_true (by omega); have c2 : decide (t < n) = true := decide_eq_true (by omega); have h1 := H.out; rw [spec_l01Ended.l0] at h1; obtain ⟨d, hd, h2⟩ := Option.bind_eq_some_iff.mp h1; have HD := am hd; clear h1 H hd; (have ht3 : t < 3 := by omega); by_cases e2 : d = 2
    ·rw [if_pos e2] at h2; subst e2; have H2 := am h2; clear h2
     go_wp2_with (first | (go_at_call 77; (with_reducible refine (spec_l01Digit.calls k a2 (t : Int) 2 _ HD.out).mono ?_); rintro e_ w5 ⟨rfl, ⟨m5, rfl⟩⟩))
     go_roundg k1
     case measure => omega
     case rel => exact ⟨_, t + 1, rfl, by go_num, H2, ⟨by have := HK.out; omega⟩, tD⟩
    ·rw [if_neg e2] at h2; (have e21 : (d == 2) = false := by simpa using e2); (have e22 : decide (d = 2) = false := by simpa using e2); by_cases e3 : bits .and .i64 (e / 2 ^ t) 1 = 1
     ·rw [if_pos e3] at h2; obtain rfl : -1 = r := Option.some.inj h2; (have e31 : (bits .and .i64 (e / 2 ^ t) 1 == 1) = true := by simpa using e3); clear h2
      go_wp2_with (first | (go_at_call 77; (with_reducible refine (spec_l01Digit.calls k a2 (t : Int) d _ HD.out).mono ?_); rintro e_ w5 ⟨rfl, ⟨m5, rfl⟩⟩))
      go_ret; exact ⟨rfl, tD⟩
     ·rw [if_neg e3] at h2; (have e31 : (bits .and .i64 (e / 2 ^ t) 1 == 1) = false := by simpa using e3); have H2 := am h2; have E2 := am e2; have E3 := am e3; clear h2 e2 e3
      go_wp2_with (first | (go_at_call 77; (with_reducible refine (spec_l01Digit.calls k a2 (t : Int) d _ HD.out).mono ?_); rintro e_ w5 ⟨rfl, ⟨m5, rfl⟩⟩))
      go_roundg k1
      case measure => omega
      case rel => exact ⟨e, t + 1, rfl, by go_num, H2, ⟨by have := HK.out; omega⟩, tD⟩
 ·rw [if_neg h0] at h; cases h
def impl_powerOf.l0 : Nat → Int → Int → Option (Int)
 | 0, _, _ => none
 | k + 1, x0, x3 => if x0 > 0 then (impl_powerOf.l0 k (wrap64 (x0 - 1)) (wrap64 (x3 * 3))) else (some x3)
def impl_powerOf.f (k : Nat) (a0 : Int) : Option (Int) := impl_powerOf.l0 k a0 1
theorem impl_powerOf.mono_l : ∀ k, (∀ y0 y1, LeO (impl_powerOf.l0 k y0 y1) (impl_powerOf.l0 (k + 1) y0 y1))
 | 0 => fun _ _ r h => by simp [impl_powerOf.l0] at h
 | k + 1 => by
  have ih0 := impl_powerOf.mono_l k
  ·intro y0 y1; unfold impl_powerOf.l0
   repeat' first
   | (with_reducible exact ih0 _ _)
   | (with_reducible exact LeO.refl _)
   | (with_reducible exact LeO.none _)
   | (with_reducible refine LeO.ite ?_ ?_)
   | (with_reducible refine LeO.bind ?_ (fun _ => ?_))
   | exact ih0 _ _
   | exact LeO.none _
   | refine LeO.ite ?_ ?_
   | refine LeO.bind ?_ (fun _ => ?_)
theorem impl_powerOf.mono : ∀ a0 k, LeO (impl_powerOf.f k a0) (impl_powerOf.f (k + 1) a0) := by
 intro a0 k; have ih0 := impl_powerOf.mono_l k; unfold impl_powerOf.f
 repeat' first
   | (with_reducible exact ih0 _ _)
   | (with_reducible exact LeO.refl _)
   | (with_reducible exact LeO.none _)
   | (with_reducible refine LeO.ite ?_ ?_)
   | (with_reducible refine LeO.bind ?_ (fun _ => ?_))
   | exact ih0 _ _
   | exact LeO.none _
   | refine LeO.ite ?_ ?_
   | refine LeO.bind ?_ (fun _ => ?_)
theorem impl_powerOf.calls (k : Nat) (a0 : Int) (r : Int) (w : World) (h : impl_powerOf.f k a0 = some r) :
  Calls Tryd.prog 142 #[.int .i64 a0] w fun e w' => e = .returned (.int .i64 r) ∧ Drawn0 w w' := by
 have H : (impl_powerOf.l0 k a0 1) = some r := h; clear h; have H' := am H; clear H; go_enter Tryd.func142, Tryd.ntmps142; go_wp2
 go_loopg [0, 3] k (fun kq v0 v3 w' => ∃ (x0_1 : Int) (x3_1 : Int), v0 = .int .i64 x0_1 ∧ v3 = .int .i64 x3_1 ∧ Aside0 (impl_powerOf.l0 kq x0_1 x3_1 = some r) ∧ Aside0 (kq ≤ k) ∧ Drawn0 w w')
 case atStart => exact ⟨(a0), (1), (tF), (tF), H', ⟨Nat.le_refl _⟩, tD⟩
 case round =>
  clear H'
  try clear c1
  obtain ⟨x0_1, x3_1, rfl, rfl, HA, HK1, ⟨m1, rfl⟩⟩ := hrel
  cases gk with
  | zero => exact absurd HA.out (by simp [impl_powerOf.l0])
  | succ k1 =>
   have H := HA.out; clear HA; simp only [impl_powerOf.l0] at H; by_cases c2 : x0_1 > 0
   ·rw [if_pos c2] at H; have c2b0 : decide (0 < x0_1) = true := decide_eq_true c2; clear c2; have H' := am H; clear H; go_wp2; go_roundg k1
    case measure => have := HK1.out; omega
    case rel => exact ⟨(wrap64 (x0_1 - 1)), (wrap64 (x3_1 * 3)), (tF), (tF), H', ⟨by have := HK1.out; omega⟩, tD⟩
   ·rw [if_neg c2] at H; have c2b0 : decide (0 < x0_1) = false := decide_eq_false c2; clear c2; obtain rfl := Option.some.inj H; go_wp2; go_ret; exact ⟨tF, tD⟩
def impl_widthOf.f (k : Nat) (a0 : Int) : Option (Int) := (impl_powerOf.f k a0).bind fun t185 => (some (wrap64 (t185 - 1)))
theorem impl_widthOf.mono : ∀ a0 k, LeO (impl_widthOf.f k a0) (impl_widthOf.f (k + 1) a0) := by
 intro a0 k; unfold impl_widthOf.f
 repeat' first
   | (with_reducible exact impl_powerOf.mono _ _)
   | (with_reducible exact LeO.refl _)
   | (with_reducible exact LeO.none _)
   | (with_reducible refine LeO.ite ?_ ?_)
   | (with_reducible refine LeO.bind ?_ (fun _ => ?_))
   | exact impl_powerOf.mono _ _
   | exact LeO.none _
   | refine LeO.ite ?_ ?_
   | refine LeO.bind ?_ (fun _ => ?_)
theorem impl_widthOf.calls (k : Nat) (a0 : Int) (r : Int) (w : World) (h : impl_widthOf.f k a0 = some r) :
  Calls Tryd.prog 118 #[.int .i64 a0] w fun e w' => e = .returned (.int .i64 r) ∧ Drawn0 w w' := by
 have H : ((impl_powerOf.f k a0).bind fun t185 => (some (wrap64 (t185 - 1)))) = some r := h; clear h; replace H := Option.bind_eq_some_iff.mp H; obtain ⟨t185, A20, H⟩ := H; replace H : (some (wrap64 (t185 - 1))) = some r := H; have A2 := am A20; clear A20; obtain rfl := Option.some.inj H; go_enter Tryd.func118, Tryd.ntmps118
 go_wp2_with (first | ((with_reducible refine gate_callee (f := 142) rfl ?_); refine goesLA (some 4) Tryd.func142 #[.int .i64 a0] rfl rfl rfl (h := ?_); (with_reducible refine (impl_powerOf.calls k a0 t185 _ A2.out).mono ?_); rintro e w' ⟨rfl, ⟨nd, rfl⟩⟩; refine ⟨_, rfl, ?_⟩))
 go_ret; exact ⟨tF, tD⟩
/-- The state of 'grow': m, ids (of lm), the result's place, list, m.accept, m.next. -/
def GI (w W : World) (tapes : Int) (own : Nat → Nat) (v14 : Value) (l lm : List Int) (va : Value) (bs : List Bool) (vr : Value) (rs : List (List Int)) : Prop :=
 (W.heap[w.heap.size + 1]? = some (.cells #[.int .i64 tapes, .int .i64 0, va, vr] 64 (0, 0)) ∧ own (w.heap.size + 1) = 4) ∧
 (W.ownsMap Tryd.prog 3 (plainElem Tryd.prog 3) (w.heap.size + 2) lm.length (idsD (Lit.int .i64) lm) ∧ own (w.heap.size + 2) = 5) ∧
 (W.heap[w.heap.size]? = some (.cells #[.int .i64 0, .int .i64 0, .slice none 0 0, .slice none 0 0] 64 (0, 0)) ∧ own w.heap.size = 6) ∧
 (Kd.int .i64).R 3 W w.heap.size (fun k => own k = 1) v14 l ∧ Kd.bool.R 4 W w.heap.size (fun k => own k = 2) va bs ∧
 Kd.S (Kd.slice 3 (Kd.int .i64)) 81 W w.heap.size (fun k => own k = 3) vr rs ∧
 Below w.heap.size w W ∧ lm.Nodup ∧ (∀ x ∈ lm, inI64 x = true) ∧ lm.length ≤ 1900000
section
variable {w W W1 : World} {tapes : Int} {own : Nat → Nat} {v14 : Value} {l lm : List Int} {va : Value} {bs : List Bool} {vr : Value} {rs : List (List Int)}
theorem GI.below (h : GI w W tapes own v14 l lm va bs vr rs) (hb : Below W.heap.size W W1) : GI w W1 tapes own v14 l lm va bs vr rs := by
 obtain ⟨⟨h1, h2⟩, ⟨h3, h4⟩, ⟨h5, h6⟩, h7, h8, h9, h10, h11⟩ := h; exact ⟨⟨blk_below h1 hb, h2⟩, ⟨map_below h3 hb, h4⟩, ⟨blk_below h5 hb, h6⟩, Kd.R_below h7 hb, Kd.R_below h8 hb, Kd.S_below h9 hb, below_then h10 h10.size hb, h11⟩
/-- Another row (number t, none of these) was written. -/
theorem GI.other (h : GI w W tapes own v14 l lm va bs vr rs) {row : Option Nat} {t : Nat} (hg : W.grownBy W1 row) (hr : ∀ k, row = some k → retag own W.heap.size t k = t) (hb : Below w.heap.size w W1) (ht : 6 < t) : GI w W1 tapes (retag own W.heap.size t) v14 l lm va bs vr rs := by
 obtain ⟨h1, h3, h5, h7, h8, h9, h10, h11⟩ := h; exact ⟨blk_otherT h1 hg hr (by omega), map_otherT h3 hg hr (by omega), blk_otherT h5 hg hr (by omega), R_otherT h7 hg hr (by omega), R_otherT h8 hg hr (by omega), S_otherT h9 hg hr (by omega), hb, h11⟩
/-- A new state was put into the map. -/
theorem GI.put (h : GI w W tapes own v14 l l va bs vr rs) {x : Int} (hx : x ∉ l) (hi : inI64 x = true) (hl : l.length < 1900000) (hm : W1.ownsMap Tryd.prog 3 (plainElem Tryd.prog 3) (w.heap.size + 2) (l.length + 1) (idsD (Lit.int .i64) (l ++ [x]))) (hg : W.grownBy W1 (some (w.heap.size + 2))) :
  GI w W1 tapes (retag own W.heap.size 5) v14 l (l ++ [x]) va bs vr rs ∧ ∀ k, some (w.heap.size + 2) = some k → retag own W.heap.size 5 k = 5 := by
 obtain ⟨h1, h3, h5, h7, h8, h9, h10, hn, hin, hlen⟩ := h; (have e : retag own W.heap.size 5 (w.heap.size + 2) = 5 := by rw [retag_lt h3.1.lt]; exact h3.2)
 have hr : ∀ k, some (w.heap.size + 2) = some k → retag own W.heap.size 5 k = 5 := by
  intro k hk; injection hk with hk; subst hk; exact e
 refine ⟨⟨blk_otherT h1 hg hr (by omega), ⟨by simpa using hm, e⟩, blk_otherT h5 hg hr (by omega), R_otherT h7 hg hr (by omega), R_otherT h8 hg hr (by omega), S_otherT h9 hg hr (by omega), h10.grown hg h10.size (fun k hk => by injection hk with hk; omega), ?_, ?_, by simp; omega⟩, hr⟩
 ·refine List.nodup_append.2 ⟨hn, by simp, fun a ha b hb => ?_⟩; simp at hb; subst hb; exact fun he => hx (he ▸ ha)
 ·intro y hy
  rcases List.mem_append.1 hy with hy | hy
  ·exact hin y hy
  ·simp at hy; subst hy; exact hi
/-- .. and behind the list. -/
theorem GI.push (h : GI w W tapes own v14 l lm va bs vr rs) {v1 : Value} {l1 : List Int} (hR : (Kd.int .i64).R 3 W1 w.heap.size (fun k => retag own W.heap.size 1 k = 1) v1 l1) (hb : Below w.heap.size w W1) (hg : W.grownBy W1 v14.ownBlock) : GI w W1 tapes (retag own W.heap.size 1) v1 l1 lm va bs vr rs := by
 obtain ⟨h1, h3, h5, h7, h8, h9, h10, h11⟩ := h; have hr := R_rowT h7; exact ⟨blk_otherT h1 hg hr (by omega), map_otherT h3 hg hr (by omega), blk_otherT h5 hg hr (by omega), hR, R_otherT h8 hg hr (by omega), S_otherT h9 hg hr (by omega), hb, h11⟩
/-- m.accept was appended to (not yet stored back): m's own block, still. -/
theorem GI.box (h : GI w W tapes own v14 l lm va bs vr rs) (hg : W.grownBy W1 va.ownBlock) : W1.heap[w.heap.size + 1]? = some (.cells #[.int .i64 tapes, .int .i64 0, va, vr] 64 (0, 0)) := by
 obtain ⟨h1, h3, h5, h7, h8, h9, h10, h11⟩ := h; exact (blk_otherT h1 hg (R_rowT h8) (by omega)).1
theorem GI.acc (h : GI w W tapes own v14 l lm va bs vr rs) {v1 : Value} {bs1 : List Bool} (hR : Kd.bool.R 4 W1 w.heap.size (fun k => retag own W.heap.size 2 k = 2) v1 bs1) (hb : Below w.heap.size w W1) (hg : W.grownBy W1 va.ownBlock) : GI w (W1.setCell ⟨w.heap.size + 1, 2, none⟩ v1) tapes (retag own W.heap.size 2) v14 l lm v1 bs1 vr rs := by
 obtain ⟨h1, h3, h5, h7, h8, h9, h10, h11⟩ := h; have hr := R_rowT h8; have b1 := blk_otherT h1 hg hr (by omega); have b0 := blk_otherT h5 hg hr (by omega); have bm := map_otherT h3 hg hr (by omega); have ne : ∀ s k, s ≠ 4 → retag own W.heap.size 2 k = s → k ≠ w.heap.size + 1 := fun s k hs hk he => hs (by rw [← hk, he, b1.2]); refine ⟨⟨by simpa using blk_set b1.1 2 v1, b1.2⟩, ⟨bm.1.setCell (by simp) _, bm.2⟩, ⟨blk_far b0.1 (by simp) _, b0.2⟩, Kd.R_far (p := ⟨w.heap.size + 1, 2, none⟩) (R_otherT h7 hg hr (by omega)) (fun k hk => ne 1 k (by omega) hk) _, Kd.R_far (p := ⟨w.heap.size + 1, 2, none⟩) hR (fun k hk => ne 2 k (by omega) hk) _, Kd.S_far (p := ⟨w.heap.size + 1, 2, none⟩) (S_otherT h9 hg hr (by omega)) (fun k hk => ne 3 k (by omega) hk) _, hb.setCell (by simp) _, h11⟩
/-- The row was put behind m.next, and m.next stored back. -/
def merge73 (f : Nat → Nat) : Nat → Nat := fun k => if f k = 7 then 3 else f k
theorem GI.boxN (h : GI w W tapes own v14 l lm va bs vr rs) (hg : W.grownBy W1 vr.ownBlock) : W1.heap[w.heap.size + 1]? = some (.cells #[.int .i64 tapes, .int .i64 0, va, vr] 64 (0, 0)) := by
 obtain ⟨h1, h3, h5, h7, h8, h9, h10, h11⟩ := h; exact (blk_otherT h1 hg (S_rowT h9) (by omega)).1
theorem GI.nxt (h : GI w W tapes own v14 l lm va bs vr rs) {v1 : Value} {rs1 : List (List Int)} (hR : Kd.S (Kd.slice 3 (Kd.int .i64)) 81 W1 w.heap.size (fun k => retag own W.heap.size 3 k = 3 ∨ retag own W.heap.size 3 k = 7) v1 rs1) (hb : Below w.heap.size w W1) (hg : W.grownBy W1 vr.ownBlock) : GI w (W1.setCell ⟨w.heap.size + 1, 3, none⟩ v1) tapes (merge73 (retag own W.heap.size 3)) v14 l lm va bs v1 rs1 := by
 obtain ⟨h1, h3, h5, h7, h8, h9, h10, h11⟩ := h; have hr := S_rowT h9; have b1 := blk_otherT h1 hg hr (by omega); have b0 := blk_otherT h5 hg hr (by omega); have bm := map_otherT h3 hg hr (by omega); have ne : ∀ s k, s ≠ 4 → retag own W.heap.size 3 k = s → k ≠ w.heap.size + 1 := fun s k hs hk he => hs (by rw [← hk, he, b1.2]); (have mg : ∀ s k, s ≠ 7 → retag own W.heap.size 3 k = s → merge73 (retag own W.heap.size 3) k = s := fun s k hs hk => by simp [merge73, hk, hs]); refine ⟨⟨by simpa using blk_set b1.1 3 v1, mg 4 _ (by omega) b1.2⟩, ⟨bm.1.setCell (by simp) _, mg 5 _ (by omega) bm.2⟩, ⟨blk_far b0.1 (by simp) _, mg 6 _ (by omega) b0.2⟩, Kd.R_mono (Kd.R_far (p := ⟨w.heap.size + 1, 3, none⟩) (R_otherT h7 hg hr (by omega)) (fun k hk => ne 1 k (by omega) hk) _) (fun k hk => mg 1 k (by omega) hk), Kd.R_mono (Kd.R_far (p := ⟨w.heap.size + 1, 3, none⟩) (R_otherT h8 hg hr (by omega)) (fun k hk => ne 2 k (by omega) hk) _) (fun k hk => mg 2 k (by omega) hk), Kd.S_mono (Kd.S_far (p := ⟨w.heap.size + 1, 3, none⟩) hR (fun k hk => hk.elim (ne 3 k (by omega)) (ne 7 k (by omega))) _) (fun k hk => hk.elim (fun h => mg 3 k (by omega) h) (fun h => by simp [merge73, h])), hb.setCell (by simp) _, h11⟩
end
theorem infoG81 : (Tryd.prog.info? 81).map (fun i => (i.zero, i.size, i.bytes)) = some (some (.slice none 0 0), 1, 24) := by kernel_rfl
theorem zero_int (w : World) : (zeroValue 3).run Tryd.prog w = .ok (.int .i64 0) w := by kernel_rfl
theorem lit_inj (a b : Int) (h : Lit.int .i64 a = Lit.int .i64 b) : a = b := by injection h
theorem lit_key (a : Int) : WideAt.IsKeyLit (Lit.int .i64 a) := trivial
def GrowPost (w : World) (tapes : Int) (bs : List Bool) (rs : List (List Int)) (e : Ending) (w' : World) : Prop :=
 ∃ va vr, e = .returned (.tuple #[.agg #[.int .i64 tapes, .int .i64 0, va, vr], .bool true]) ∧ Kd.bool.R 4 w' w.heap.size (fun _ => True) va bs ∧ Kd.S (Kd.slice 3 (Kd.int .i64)) 81 w' w.heap.size (fun _ => True) vr rs ∧ Below w.heap.size w w'
theorem gi_at {w W : World} {tapes : Int} {own : Nat → Nat} {v14 : Value} {l lm : List Int} {va : Value} {bs : List Bool} {vr : Value} {rs : List (List Int)} (h : GI w W tapes own v14 l lm va bs vr rs) {i : Nat} {k : Int} (hk : l[i]? = some k) :
  ∃ g c, v14 = .slice (some ⟨g, 0, none⟩) l.length c ∧ W.cell? ⟨g, i, none⟩ = some (.int .i64 k) := by
 obtain ⟨_, _, _, h7, _⟩ := h; have hi : i < l.length := (List.getElem?_eq_some_iff.1 hk).1; obtain ⟨g, cap, hv, _⟩ := Kd.R_form h7 (by omega); subst hv; obtain ⟨_, _, hC⟩ := Kd.R_reads' h7; obtain ⟨ad, e, hx⟩ := Kd.at_int hC (i : Int) (by omega) (by omega); injection e with e; subst e; refine ⟨g, cap, rfl, ?_⟩; rw [add_plain] at hx; simp only [Int.toNat_natCast] at hx; rw [hx]; simp [rd, List.getD_eq_getElem?_getD, hk]
theorem gi_start {w w1 : World} {tapes start : Int} (hs : inI64 start = true)
  (hown : w1.ownsMap Tryd.prog 3 (plainElem Tryd.prog 3) (w.heap.size + 1 + 1) (0 + 1) (DataW.put (.map [] : DataW Unit) (.int .i64 start) (.lit (.int .i64 0))))
  (hg : World.grownBy (((w.alloc (.cells #[.int .i64 0, .int .i64 0, .slice none 0 0, .slice none 0 0] 64)).alloc (.cells #[.int .i64 tapes, .int .i64 0, .slice none 0 0, .slice none 0 0] 64)).alloc (.map #[] 0)) w1 (some (w.heap.size + 1 + 1))) :
  GI w (w1.alloc (.cells #[.int .i64 start] 3)) tapes (fun k => if k = w.heap.size + 1 then 4 else if k = w.heap.size + 2 then 5 else if k = w.heap.size then 6 else 1) (.slice (some ⟨w1.heap.size, 0, none⟩) 1 1) [start] [start] (.slice none 0 0) [] (.slice none 0 0) [] := by
 have hsz : w.heap.size + 3 ≤ w1.heap.size := by have := hg.size; simp at this; omega
 have hB : Below w.heap.size w w1 := by
  refine Below.trans ((((Below.refl _ w).alloc (Nat.le_refl _) _).alloc (by simp) _).alloc (by simp; omega) _) ⟨hg.os, hg.tape, hg.output, hg.size, fun k hk => hg.block k (by simp; omega) (by simp; omega)⟩
 have hB2 := hB.alloc (by omega) (.cells #[.int .i64 start] 3)
 have h1 : w1.heap[w.heap.size + 1]? = some (.cells #[.int .i64 tapes, .int .i64 0, .slice none 0 0, .slice none 0 0] 64 (0, 0)) := by
  rw [hg.block _ (by simp) (by simp)]; exact blk_alloc (by have := blk_new (w.alloc (.cells #[.int .i64 0, .int .i64 0, .slice none 0 0, .slice none 0 0] 64)) (.cells #[.int .i64 tapes, .int .i64 0, .slice none 0 0, .slice none 0 0] 64); simpa using this) _
 have h0 : w1.heap[w.heap.size]? = some (.cells #[.int .i64 0, .int .i64 0, .slice none 0 0, .slice none 0 0] 64 (0, 0)) := by
  rw [hg.block _ (by simp; omega) (by simp; omega)]; exact blk_alloc (blk_alloc (blk_new w _) _) _
 refine ⟨⟨blk_alloc h1 _, by simp⟩, ⟨?_, by simp⟩, ⟨blk_alloc h0 _, by simp⟩, ?_, Kd.R_nil _ _ _ _ _, Kd.S_nil _ _ _ _ _, hB2, by simp, by simpa using hs, by simp⟩
 ·have := hown.alloc (.cells #[.int .i64 start] 3)
  simpa [idsD] using this
 ·exact R_one (d := Kd.int .i64) w1 start [.int .i64 start] _ rfl rfl (by omega) (by show (if w1.heap.size = _ then _ else _) = 1; rw [if_neg (by omega), if_neg (by omega), if_neg (by omega)])
theorem grow_int_calls {acc : Int → Option Bool} {next : Int → Int → Option Int} {W : Nat} {na nn : FuncId} {ca cn : Array Value} {tapes start : Int} {kw f : Nat} {as1 : List Bool} {rs1 : List (List Int)} (w : World)
  (hA : CloOK Tryd.prog w na ca (fun x : Int => #[.int .i64 x]) acc Value.bool) (hN : CloOK Tryd.prog w nn cn (fun x : Int × Int => #[.int .i64 x.1, .int .i64 x.2]) (fun x => next x.1 x.2) (Value.int .i64))
  (hw : impl_widthOf.f kw tapes = some (W : Int)) (hW : W ≤ 1000) (hs : inI64 start = true) (h : growL inI64 acc next W f [start] [] [] = some (as1, rs1)) :
  Calls Tryd.prog 79 #[.int .i64 tapes, .int .i64 start, .int .i64 0, .func (.func na) #[] ca, .func (.func nn) #[] cn] w (GrowPost w tapes as1 rs1) := by
 have HA := am hA; have HN := am hN; have HW := am hw; have HH := am h; have HS := am hs; clear hA hN hw h hs; have hmm := @run_makeMap Tryd.prog; have hown0 : (((w.alloc (.cells #[.int .i64 0, .int .i64 0, .slice none 0 0, .slice none 0 0] 64)).alloc (.cells #[.int .i64 tapes, .int .i64 0, .slice none 0 0, .slice none 0 0] 64)).alloc (.map #[] 0)).ownsMap Tryd.prog 3 (plainElem Tryd.prog 3) (w.heap.size + 1 + 1) 0 (.map [] : DataW Unit) := made_at _ (by simp); obtain ⟨w1, hrun, hown1, hg1⟩ := hown0.update (Maps.int_keyed Tryd.underlying3) Tryd.underlying108 (by unfold maxLen; omega) (key := .int .i64 start) (val := .int .i64 0) (Maps.keyOf_int_mk Tryd.underlying3 (inI64_wf HS.out)) (plainElem_int Tryd.underlying3 (by decide)); have HO1 := am hown1; have HG1 := am hg1; clear hown0 hown1 hg1; obtain ⟨fa, ha1, ha2, ha3⟩ := HA.out.fn; obtain ⟨fb, hb1, hb2, hb3⟩ := HN.out.fn; have hea := fun args W' => enters_ (P := Tryd.prog) ha1 ha2 ha3 args W'; have heb := fun args W' => enters_ (P := Tryd.prog) hb1 hb2 hb3 args W'; clear ha1 ha2 ha3 hb1 hb2 hb3; go_enter Tryd.func79, Tryd.ntmps79; go_wp2; have HI := am (gi_start HS.out HO1.out HG1.out); clear HO1 HG1 hmm hrun
 generalize w1.alloc _ = W0 at HI ⊢
 generalize (Value.slice (some { block := w1.heap.size, off := 0 }) 1 1) = v0 at HI ⊢
 go_loopg [14, 15] f (fun kq v14 v15 w' => ∃ (own : Nat → Nat) (l : List Int) (va : Value) (bs : List Bool) (vr : Value) (rs : List (List Int)), v15 = .int .i64 (bs.length : Int) ∧ Aside0 (GI w w' tapes own v14 l l va bs vr rs) ∧ Aside0 (growL inI64 acc next W kq l bs rs = some (as1, rs1)) ∧ Aside0 (rs.length = bs.length))
 case atStart => exact ⟨_, [start], .slice none 0 0, [], .slice none 0 0, [], by simp, HI, HH, ⟨by simp⟩⟩
 case round =>
  clear HI HH; obtain ⟨own, l, va, bs, vr, rs, rfl, HI, HL, HRL⟩ := hrel
  cases gk with
  | zero => exact absurd HL.out (by simp [growL])
  | succ k1 =>
   have H := HL.out; clear HL; simp only [growL] at H
   cases hk : l[bs.length]? with
   | none =>
    rw [hk] at H; obtain ⟨rfl, rfl⟩ := Prod.mk.inj (Option.some.inj H); have hle : l.length ≤ bs.length := List.getElem?_eq_none_iff.1 hk; clear H hk; obtain ⟨⟨b1, -⟩, -, ⟨b0, -⟩, r14, rva, rvr, hB, -⟩ := HI.out; obtain ⟨A14, c14, rfl⟩ := Kd.R_slice r14; obtain ⟨Aa, cva, rfl⟩ := Kd.R_slice rva; obtain ⟨An, cvr, rfl⟩ := Kd.S_slice rvr; have c1 : decide ((bs.length : Int) < (l.length : Int)) = false := decide_eq_false (by omega); have c2 : decide (bs.length < l.length) = false := decide_eq_false (by omega); have RA := am rva; have RN := am rvr; have HB := am hB; have B0 := am b0; have m0 : wr.cell? ⟨w.heap.size + 1, 0, none⟩ = some (.int .i64 tapes) := (blk_cell b1 0).trans rfl; have m1 : wr.cell? ⟨w.heap.size + 1, 1, none⟩ = some (.int .i64 0) := (blk_cell b1 1).trans rfl; have m2 : wr.cell? ⟨w.heap.size + 1, 2, none⟩ = some (.slice Aa bs.length cva) := (blk_cell b1 2).trans rfl; have m3 : wr.cell? ⟨w.heap.size + 1, 3, none⟩ = some (.slice An rs.length cvr) := (blk_cell b1 3).trans rfl; have n0 : wr.cell? ⟨w.heap.size, 0, none⟩ = some (.int .i64 0) := (blk_cell b0 0).trans rfl; have n1 : wr.cell? ⟨w.heap.size, 1, none⟩ = some (.int .i64 0) := (blk_cell b0 1).trans rfl; have n2 : wr.cell? ⟨w.heap.size, 2, none⟩ = some (.slice none 0 0) := (blk_cell b0 2).trans rfl; have n3 : wr.cell? ⟨w.heap.size, 3, none⟩ = some (.slice none 0 0) := (blk_cell b0 3).trans rfl; have f0 := blk_frozen b0 0; have f1 := blk_frozen b0 1; have f2 := blk_frozen b0 2; have f3 := blk_frozen b0 3; clear r14 rva rvr hB b1 b0 HI hle; go_wp2; refine bodyPost_ret (v := .tuple #[.agg #[.int .i64 tapes, .int .i64 0, .slice Aa bs.length cva, .slice An rs.length cvr], .bool true]) (by simp [results, Tryd.results79, go_sem, n0, n1, n2, n3]) rfl ⟨_, _, rfl, ?_, ?_, ?_⟩
    ·exact Kd.R_mono (R_set4 RA.out B0.out (by decide) _ _ _ _) (fun _ _ => trivial)
    ·exact Kd.S_mono (S_set4 RN.out B0.out (by decide) _ _ _ _) (fun _ _ => trivial)
    ·exact below_set4 HB.out (Nat.le_refl _) _ _ _ _
   | some k =>
    rw [hk] at H; simp only [] at H; obtain ⟨⟨l1, row1⟩, hrow, H⟩ := Option.bind_eq_some_iff.mp H; obtain ⟨a1, hacc, H⟩ := Option.bind_eq_some_iff.mp H; obtain ⟨g, c14, rfl, hcell⟩ := gi_at HI.out hk; have hlt : bs.length < l.length := (List.getElem?_eq_some_iff.1 hk).1; have c1 : decide ((bs.length : Int) < (l.length : Int)) = true := decide_eq_true (by omega); have c2 : decide (bs.length < l.length) = true := decide_eq_true (by omega); have HR := am hrow; have HC := am hacc; have HG := am H; clear H hrow hacc hk; go_wp2
    go_loopg [14, 17, 18] W (fun kq v14 v17 v18 w' => ∃ (own : Nat → Nat) (l' : List Int) (row : List Int) (c : Nat), v18 = .int .i64 (c : Int) ∧ Aside0 (c + kq = W) ∧ Aside0 (GI w w' tapes own v14 l' l' va bs vr rs ∧ (Kd.int .i64).R 3 w' w.heap.size (fun k => own k = 7) v17 row) ∧ Aside0 (growRow inI64 (next k) kq (c : Int) l' row = some (l1, row1)) ∧ Aside0 (row.length = c ∧ bs.length ≤ l'.length ∧ bs.length < l'.length))
    case atStart => exact ⟨own, l, [], 0, by simp, ⟨by omega⟩, ⟨HI.out, Kd.R_nil _ _ _ _ _⟩, ⟨HR.out⟩, ⟨rfl, by omega, hlt⟩⟩
    case round =>
     clear HI HR hcell c1 c2 hlt; obtain ⟨own, l', row, c, rfl, HCW, HI2, HR2, HN2⟩ := hrel
     cases gk with
     | zero =>
      have e := HR2.out; simp only [growRow] at e; obtain ⟨rfl, rfl⟩ := Prod.mk.inj (Option.some.inj e); have hcw := HCW.out; have c1 : decide ((c : Int) < (W : Int)) = false := decide_eq_false (by omega); have c2 : decide (c < W) = false := decide_eq_false (by omega); clear e HR2 hcw
      go_wp2_with (first | (go_at_call 118; (with_reducible refine (impl_widthOf.calls kw tapes (W : Int) _ HW.out).mono ?_); rintro e w' ⟨rfl, ⟨nd, rfl⟩⟩))
      have HI3 := am ((HI2.out.1.below (pw_below_drewN (Below.refl _ _) nd)).below (below_drew (Below.refl _ _))); have HR3 := am (Kd.R_below (Kd.R_below HI2.out.2 (pw_below_drewN (Below.refl _ _) nd)) (below_drew (Below.refl _ _))); obtain ⟨Aa, cva, hva⟩ := Kd.R_slice HI3.out.2.2.2.2.1; subst hva; have hS : (wr.drewN nd).drew.cell? ⟨w.heap.size + 1, 2, none⟩ = some (.slice Aa bs.length cva) := (blk_cell HI3.out.1.1 2).trans rfl; clear HI2; refine start_ (n := 9) (S := fun w' => w'.cell? ⟨w.heap.size + 1, 2, none⟩ = some (.slice Aa bs.length cva)) (ds := [8]) #[false, false, false, false, false, false, false, false, false] (by kernel_rfl) rfl rfl hS (fun hHeld => ?_)
      generalize (wr.drewN nd).drew = w3 at HI3 HR3 hS hHeld ⊢
      refine pureA 0 (some 79) (bl 9 1) rfl rfl (h := ?_); refine take_ (i := 1) (N := some 80) (v := ?_) (a' := ?_) #[true, true, false, false, false, false, false, false, false] rfl rfl (by kernel_rfl) (fun _ _ _ h => h) (Or.inl ⟨by rfl, ?_⟩) hHeld ?_ ?_; rotate_left
      ·intro w' s0; go_simp; (with_reducible rfl)
      rotate_left
      ·simp only [Act.put, List.setIfInBounds_toArray, List.set_cons_zero, List.set_cons_succ]; rfl
      refine pureA 2 (some 81) (bl 9 7) rfl rfl (h := ?_); refine pureA 3 (some 82) (bl 9 15) rfl rfl (h := ?_); refine one_ (i := 4) (N := some 83) (bl 9 31) rfl rfl (by kernel_rfl) (by decide) (fun K hK => ?_); obtain ⟨fa, ha1, ha2, ha3⟩ := HA.out.fn; refine call_ na (#[.int .i64 k] ++ ca) (by rfl) rfl (runs_val ha1 ha2 ha3 _ rfl rfl (by (try simp only [List.map_toArray, List.map_cons, List.map_nil]); rfl)) ?_; refine (HA.out.run k a1 w3 HI3.out.2.2.2.2.2.2.1 HC.out).mono ?_; rintro e w4 ⟨rfl, hb4⟩; refine ⟨_, rfl, ?_⟩; have HI4 := am (HI3.out.below hb4); have HR4 := am (Kd.R_below HR3.out hb4); clear HI3 HR3 hS hHeld hb4; refine hK.out _ _ ((blk_cell HI4.out.1.1 2).trans rfl) (fun hHeld => ?_); clear hK K; refine normA (h := ?_); refine one_ (i := 5) (N := some 84) (bl 9 63) rfl rfl (by kernel_rfl) (by decide) (fun K hK => ?_); refine value_ (v := .slice (some ⟨w4.heap.size, 0, none⟩) 1 1) (w1 := w4.alloc (.cells #[.bool a1] 4)) (by rfl) rfl ?_ ?_
      ·go_simp
      refine hK.out _ _ ((blk_cell (blk_alloc HI4.out.1.1 _) 2).trans rfl) (fun hHeld => ?_); clear hK K; refine normA (h := ?_); refine one_ (i := 6) (N := some 85) (bl 9 127) rfl rfl (by kernel_rfl) (by decide) (fun K hK => ?_); refine Kd.R_append_step Kd.bool (w0 := w) w.heap.size (by rfl) (.tmp 80) (.tmp 84) 22 4 (.bool false) 1 rfl Tryd.underlying22 info4 rfl (by decide) (by omega) (.slice Aa bs.length cva) bs a1 [.bool a1] (fun k => retag own w4.heap.size 2 k = 2) (fun _ => False) rfl rfl rfl (fun _ hk => hk.elim) (fun _ hk => retag_ge hk) (R_tag HI4.out.2.2.2.2.1 2) HI4.out.2.2.2.2.2.2.1 HI4.out.2.2.2.2.2.2.1.size (by have := HN2.out.2.1; have := HI4.out.2.2.2.2.2.2.2.2.2; omega) ?_; intro v5 w5 ho hb hg hat; obtain ⟨A5, c5, hv5⟩ := Kd.R_slice ho; subst hv5; have b5 := GI.box HI4.out hg; have HI5 := am (GI.acc HI4.out ho hb hg); have HR5 := am (Kd.R_far (p := ⟨w.heap.size + 1, 2, none⟩) (R_otherT (t := 2) HR4.out hg (R_rowT HI4.out.2.2.2.2.1) (by omega)) (fun k hk he => by have := HI5.out.1.2; rw [he] at hk; simp only at hk; omega) (.slice A5 (bs ++ [a1]).length c5)); have m5 : w5.cell? ⟨w.heap.size + 1, 2, none⟩ = some (.slice Aa bs.length cva) := (blk_cell b5 2).trans rfl; have f5 := blk_frozen b5 2; clear HI4 HR4 ho hb hg hat b5; refine hK.out _ _ m5 (fun hHeld => ?_); clear hK K; refine normA (h := ?_); refine one_ (i := 7) (N := some 86) (bl 9 255) rfl rfl (by kernel_rfl) (by decide) (fun K hK => ?_); refine value_ (v := .pointer (some ⟨w.heap.size + 1, 2, none⟩)) (w1 := w5) (by rfl) rfl ?_ ?_
      ·go_simp
      refine hK.out _ _ m5 (fun hHeld => ?_); clear hK K; refine normA (h := ?_); refine last_ (i := 8) (N := none) (bl 9 511) rfl rfl (by kernel_rfl) (by decide) (fun K hK => ?_); refine skip_ (w1 := w5.setCell ⟨w.heap.size + 1, 2, none⟩ (.slice A5 (bs ++ [a1]).length c5)) (by rfl) rfl ?_ ?_
      ·go_simp
      refine hK.out _ _ ?_; clear hK K; refine done_ (by kernel_rfl) ?_; clear m5 f5 hHeld
      generalize w5.setCell _ _ = w6 at HI5 HR5 ⊢
      obtain ⟨An, cvr, hvr⟩ := Kd.S_slice HI5.out.2.2.2.2.2.1; subst hvr; obtain ⟨Ar, cr, hr17⟩ := Kd.R_slice HR5.out; subst hr17; have m3 : w6.cell? ⟨w.heap.size + 1, 3, none⟩ = some (.slice An rs.length cvr) := (blk_cell HI5.out.1.1 3).trans rfl; (have hrl : row.length < 1000000 := by have := HN2.out.1; have := HCW.out; omega)
      go_wp2_with (first | ((with_reducible refine gate_builtin (b := .append) (xs := #[.tmp 88, .tmp 90]) rfl ?_); at_builtin; refine Kd.S_append (Kd.slice 3 (Kd.int .i64)) (w0 := w) w.heap.size rfl (.tmp 88) (.tmp 90) 62 81 (.slice none 0 0) 24 rfl Tryd.underlying62 infoG81 rfl (by decide) (by omega) (.slice An rs.length cvr) rs row [.slice Ar row.length cr] (fun k => retag (retag own w4.heap.size 2) w6.heap.size 3 k = 3 ∨ retag (retag own w4.heap.size 2) w6.heap.size 3 k = 7) (fun k => retag (retag own w4.heap.size 2) w6.heap.size 3 k = 7) rfl rfl ?aP ?aK ?aF ?aO ?aB ?aS ?aL ?_; (case aP => exact ⟨_, rfl, R_tag HR5.out 3⟩); (case aK => intro k hk; exact ⟨Or.inr hk, fun he => by have := S_rowT HI5.out.2.2.2.2.2.1 k he.symm; omega⟩); (case aF => exact (fun _ hk => Or.inl (retag_ge hk))); (case aO => exact Kd.S_mono (S_tagged HI5.out.2.2.2.2.2.1 3) (fun k hk => ⟨Or.inl hk, by omega⟩)); (case aB => exact HI5.out.2.2.2.2.2.2.1); (case aS => exact HI5.out.2.2.2.2.2.2.1.size); (case aL => have := HN2.out.2.1; have := HI5.out.2.2.2.2.2.2.2.2.2; have := HRL.out; omega); intro v7 w7 ho hb hg hat; obtain ⟨A7, c7, hv7⟩ := Kd.S_slice ho; subst hv7; have b7 := GI.boxN HI5.out hg; have HI6 := am (GI.nxt HI5.out ho hb hg); have m7 : w7.cell? ⟨w.heap.size + 1, 3, none⟩ = some (.slice An rs.length cvr) := (blk_cell b7 3).trans rfl; have f7 := blk_frozen b7 3; clear HI5 HR5 ho hb hg hat b7 m3))
      go_roundg k1
      case measure => omega
      case rel =>
       have q1 := HN2.out.2.1; have q2 := HI6.out.2.2.2.2.2.2.2.2.2; exact ⟨_, l', _, bs ++ [a1], _, rs ++ [row], by rw [show (bs ++ [a1]).length = bs.length + 1 by simp, show wrap64 ((bs.length : Int) + 1) = (bs.length : Int) + 1 by unfold wrap64; omega]; rfl, by have h_ := HI6; rw [show (rs ++ [row]).length = rs.length + 1 by simp] at h_; exact h_, ⟨by have h_ := HG.out; simpa using h_⟩, ⟨by have := HRL.out; simp; omega⟩⟩
     | succ k2 =>
      have H := HR2.out; simp only [growRow] at H; obtain ⟨x, hnx, H⟩ := Option.bind_eq_some_iff.mp H; have hcw := HCW.out; have c1 : decide ((c : Int) < (W : Int)) = true := decide_eq_true (by omega); have c2 : decide (c < W) = true := decide_eq_true (by omega); (have b1 : c < 1000 := by omega); clear hcw HR2; by_cases hg : inI64 x = true
      ·rw [if_pos hg] at H; have HX := am hg; have HNX := am hnx; clear hg hnx; obtain ⟨A14, c14', hv14⟩ := Kd.R_slice HI2.out.1.2.2.2.1; subst hv14; by_cases hm : x ∈ l'
       ·rw [if_pos hm] at H; have HM := am hm; have H' := am H; clear hm H
        go_wp2_with (first | (go_at_call 118; (with_reducible refine (impl_widthOf.calls kw tapes (W : Int) _ HW.out).mono ?_); rintro e w' ⟨rfl, ⟨nd, rfl⟩⟩))
        refine (HN.out.run (k, (c : Int)) x _ ?hB HNX.out).mono ?_
        case hB => exact pw_below_drewN HI2.out.1.2.2.2.2.2.2.1 _
        rintro e w2 ⟨rfl, hb2⟩; have HI3 := am ((HI2.out.1.below (pw_below_drewN (Below.refl _ _) nd)).below hb2); have HR3 := am (Kd.R_below (Kd.R_below HI2.out.2 (pw_below_drewN (Below.refl _ _) nd)) hb2); clear hb2 HI2
        go_wp2_with (first | (at_lookup; refine wpList_ids_look _ rfl _ _ 108 rfl lit_inj lit_key (Maps.int_keyed Tryd.underlying3) Tryd.underlying108 Tryd.underlying3 (zero_int _) rfl HI3.out.2.1.1 HI3.out.2.2.2.2.2.2.2.1 _ x rfl (Maps.keyOf_int_mk Tryd.underlying3 (inI64_wf HX.out)) _ true (if_pos HM.out) (decide_eq_true HM.out) ?_) | ((with_reducible refine gate_builtin (b := .append) (xs := #[.tmp 75, .tmp 77]) rfl ?_); at_builtin; refine Kd.R_append (Kd.int .i64) (w0 := w) w.heap.size rfl (.tmp 75) (.tmp 77) 81 3 (.int .i64 0) 8 rfl Tryd.underlying81 info3 rfl (by decide) (by omega) u17 row ((l'.idxOf x : Nat) : Int) [.int .i64 ((l'.idxOf x : Nat) : Int)] (fun k => retag own w2.heap.size 7 k = 7) (fun _ => False) rfl rfl ?aP (fun _ hk => hk.elim) ?aF ?aO ?aB ?aS ?aL ?_; (case aP => exact rfl); (case aB => exact HI3.out.2.2.2.2.2.2.1); (case aF => exact (fun _ hk => retag_ge hk)); (case aO => exact R_tag HR3.out 7); (case aS => exact HI3.out.2.2.2.2.2.2.1.size); (case aL => have := HN2.out.1; omega); intro v5 w5 ho hb hg hat; have n0_ := am (GI.other HI3.out hg (R_rowT HR3.out) hb (by omega)); have n1_ := am ho; clear HI3 HR3 ho hb hg hat))
        go_roundg k2
        case measure => omega
        case rel => exact ⟨retag own w2.heap.size 7, l', row ++ [((l'.idxOf x : Nat) : Int)], c + 1, by go_num, ⟨by have := HCW.out; omega⟩, ⟨n0_.out, n1_.out⟩, ⟨by have h_ := H'.out; rwa [show (c : Int) + 1 = ((c + 1 : Nat) : Int) by omega] at h_⟩, ⟨by simp [HN2.out.1], HN2.out.2⟩⟩
       ·rw [if_neg hm] at H; by_cases hl : l'.length < 1900000
        ·rw [if_pos hl] at H; have HM := am hm; have HL2 := am hl; have H' := am H; clear hm H
         go_wp2_with (first | (go_at_call 118; (with_reducible refine (impl_widthOf.calls kw tapes (W : Int) _ HW.out).mono ?_); rintro e w' ⟨rfl, ⟨nd, rfl⟩⟩))
         refine (HN.out.run (k, (c : Int)) x _ ?hB HNX.out).mono ?_
         case hB => exact pw_below_drewN HI2.out.1.2.2.2.2.2.2.1 _
         rintro e w2 ⟨rfl, hb2⟩; have HI3 := am ((HI2.out.1.below (pw_below_drewN (Below.refl _ _) nd)).below hb2); have HR3 := am (Kd.R_below (Kd.R_below HI2.out.2 (pw_below_drewN (Below.refl _ _) nd)) hb2); clear hb2 HI2
         go_wp2_with (first | (at_lookup; refine wpList_ids_look _ rfl _ _ 108 rfl lit_inj lit_key (Maps.int_keyed Tryd.underlying3) Tryd.underlying108 Tryd.underlying3 (zero_int _) rfl HI3.out.2.1.1 HI3.out.2.2.2.2.2.2.2.1 _ x rfl (Maps.keyOf_int_mk Tryd.underlying3 (inI64_wf HX.out)) _ false (if_neg HM.out) (decide_eq_false HM.out) ?_) | (at_mapUpdate; refine wpList_ids_put _ rfl _ _ _ 108 rfl (Maps.int_keyed Tryd.underlying3) Tryd.underlying108 Tryd.underlying3 rfl HI3.out.2.1.1 ?uM _ x rfl (Maps.keyOf_int_mk Tryd.underlying3 (inI64_wf HX.out)) rfl ?uL ?_; (case uM => unfold maxLen; omega); (case uL => omega); intro w3 hown3 hg3; have hq := GI.put HI3.out HM.out HX.out HL2.out hown3 hg3; have HI4 := am hq.1; have HR4 := am (R_otherT (t := 5) HR3.out hg3 hq.2 (by omega)); clear HI3 HR3 hq hown3 hg3) | ((with_reducible refine gate_builtin (b := .append) (xs := #[.tmp 62, .tmp 64]) rfl ?_); at_builtin; refine Kd.R_append (Kd.int .i64) (w0 := w) w.heap.size rfl (.tmp 62) (.tmp 64) 81 3 (.int .i64 0) 8 rfl Tryd.underlying81 info3 rfl (by decide) (by omega) (.slice A14 l'.length c14') l' x [.int .i64 x] (fun k => retag (retag own w2.heap.size 5) w3.heap.size 1 k = 1) (fun _ => False) rfl rfl ?aP (fun _ hk => hk.elim) ?aF ?aO ?aB ?aS ?aL ?_; (case aP => exact rfl); (case aB => exact HI4.out.2.2.2.2.2.2.1); (case aF => exact (fun _ hk => retag_ge hk)); (case aO => exact R_tag HI4.out.2.2.2.1 1); (case aS => exact HI4.out.2.2.2.2.2.2.1.size); (case aL => omega); intro v4 w4 ho hb hg hat; have HI5 := am (GI.push HI4.out ho hb hg); have HR5 := am (R_otherT (t := 1) HR4.out hg (R_rowT HI4.out.2.2.2.1) (by omega)); clear HI4 HR4 ho hb hg hat) | ((with_reducible refine gate_builtin (b := .append) (xs := #[.tmp 75, .tmp 77]) rfl ?_); at_builtin; refine Kd.R_append (Kd.int .i64) (w0 := w) w.heap.size rfl (.tmp 75) (.tmp 77) 81 3 (.int .i64 0) 8 rfl Tryd.underlying81 info3 rfl (by decide) (by omega) u17 row (l'.length : Int) [.int .i64 (l'.length : Int)] (fun k => retag (retag (retag own w2.heap.size 5) w3.heap.size 1) w4.heap.size 7 k = 7) (fun _ => False) rfl rfl ?aP (fun _ hk => hk.elim) ?aF ?aO ?aB ?aS ?aL ?_; (case aP => exact rfl); (case aB => exact HI5.out.2.2.2.2.2.2.1); (case aF => exact (fun _ hk => retag_ge hk)); (case aO => exact R_tag HR5.out 7); (case aS => exact HI5.out.2.2.2.2.2.2.1.size); (case aL => have := HN2.out.1; omega); intro v5 w5 ho hb hg hat; have n0_ := am (GI.other HI5.out hg (R_rowT HR5.out) hb (by omega)); have n1_ := am ho; clear HI5 HR5 ho hb hg hat))
         go_roundg k2
         case measure => omega
         case rel => exact ⟨_, l' ++ [x], row ++ [(l'.length : Int)], c + 1, by go_num, ⟨by have := HCW.out; omega⟩, ⟨n0_.out, n1_.out⟩, ⟨by have h_ := H'.out; rwa [show (c : Int) + 1 = ((c + 1 : Nat) : Int) by omega] at h_⟩, ⟨by simp [HN2.out.1], by have := HN2.out.2; simp; omega⟩⟩
        ·rw [if_neg hl] at H; cases H
      ·rw [if_neg hg] at H; cases H
/-- A machine in memory, and its rows. -/
def MachAt (W : World) (g : Nat) (tapes start : Int) (ac : List Bool) (ns : List (List Int)) : Prop :=
 ∃ Aa ca An cn, W.heap[g]? = some (.cells #[.int .i64 tapes, .int .i64 start, .slice Aa ac.length ca, .slice An ns.length cn] 64 (0, 0)) ∧ Kd.C Kd.bool W Aa ac.length ac ∧ Kd.C (Kd.slice 3 (Kd.int .i64)) W An ns.length ns
/-- A variable that holds a row of numbers. -/
def VarAt (W : World) (g : Nat) (l : List Int) : Prop :=
 ∃ A c, W.heap[g]? = some (.cells #[.slice A l.length c] 81 (0, 0)) ∧ Kd.C (Kd.int .i64) W A l.length l
theorem MachAt.below {W W1 : World} {g : Nat} {tapes start : Int} {ac : List Bool} {ns : List (List Int)} (h : MachAt W g tapes start ac ns) (hb : Below W.heap.size W W1) : MachAt W1 g tapes start ac ns := by
 obtain ⟨Aa, ca, An, cn, h1, h2, h3⟩ := h; exact ⟨Aa, ca, An, cn, blk_below h1 hb, Kd.C_below h2 hb, Kd.C_below h3 hb⟩
theorem VarAt.below {W W1 : World} {g : Nat} {l : List Int} (h : VarAt W g l) (hb : Below W.heap.size W W1) : VarAt W1 g l := by
 obtain ⟨A, c, h1, h2⟩ := h; exact ⟨A, c, blk_below h1 hb, Kd.C_below h2 hb⟩
def accM (one : List Int) (ac : List Bool) (x : Int) : Option Bool := if 0 ≤ x then (if x < (one.length : Int) then (if 0 ≤ rd one x then (if rd one x < (ac.length : Int) then some (rdOf false ac (rd one x)) else none) else none) else none) else none
theorem merged1_clo {w : World} {gm go : Nat} {tapes start : Int} {ac : List Bool} {ns : List (List Int)} {one : List Int} (hm : MachAt w gm tapes start ac ns) (ho : VarAt w go one) :
  CloOK Tryd.prog w 146 #[.pointer (some ⟨gm, 0, none⟩), .pointer (some ⟨go, 0, none⟩)] (fun x : Int => #[.int .i64 x]) (accM one ac) Value.bool := by
 refine ⟨⟨_, Tryd.func146, by kernel_rfl, rfl⟩, fun x r W hb h => ?_⟩; obtain ⟨Aa, ca, An, cn, b1, hC1, hC2⟩ := hm.below hb; obtain ⟨Ao, co, b2, hCo⟩ := ho.below hb; clear hm ho hb; unfold accM at h; by_cases p0 : 0 ≤ x
 ·rw [if_pos p0] at h; by_cases q0 : x < (one.length : Int)
  ·rw [if_pos q0] at h; by_cases p1 : 0 ≤ rd one x
   ·rw [if_pos p1] at h; by_cases q1 : rd one x < (ac.length : Int)
    ·rw [if_pos q1] at h; obtain rfl := Option.some.inj h; clear h; obtain ⟨ad1, e1, hx1⟩ := Kd.at_int hCo x p0 q0; obtain ⟨ad2, e2, hx2⟩ := Kd.at_bool hC1 (rd one x) p1 q1; subst e1; subst e2; have m2 : W.cell? ⟨gm, 2, none⟩ = some (.slice (some ad2) ac.length ca) := (blk_cell b1 2).trans rfl; have v0 : W.cell? ⟨go, 0, none⟩ = some (.slice (some ad1) one.length co) := (blk_cell b2 0).trans rfl; replace p0 := eq_true p0; replace q0 := eq_true q0; replace p1 := eq_true p1; replace q1 := eq_true q1; clear b1 b2 hC1 hC2 hCo; go_enter Tryd.func146, Tryd.ntmps146; go_wp2
     repeat (go_quiet (fail); try go_wp2)
     go_ret; exact ⟨rfl, by repeat (first | exact Below.refl _ _ | apply pw_below_drewN | apply below_drew1)⟩
    ·rw [if_neg q1] at h; cases h
   ·rw [if_neg p1] at h; cases h
  ·rw [if_neg q0] at h; cases h
 ·rw [if_neg p0] at h; cases h
def rdR (xs : List (List Int)) (i : Int) : List Int := xs.getD i.toNat []
theorem at_rows {e : TypeId} {w : World} {A : Option Addr} {n : Nat} {xs : List (List Int)} (h : Kd.C (Kd.slice e (Kd.int .i64)) w A n xs) (i : Int) (h0 : 0 ≤ i) (h1 : i < n) : ∃ ad A0 c0, A = some ad ∧ w.cell? (ad.add i.toNat) = some (.slice A0 (rdR xs i).length c0) ∧ (rdR xs i).length ≤ c0 ∧ (Kd.int .i64).C w A0 (rdR xs i).length (rdR xs i) := by
 obtain ⟨ad, c, e', _, ⟨A0, c0, rfl, hl, hC⟩, hc⟩ := Kd.C_get h [] i h0 h1; have := hc 0 _ rfl; rw [show i.toNat * (Kd.slice e (Kd.int .i64)).sz + 0 = i.toNat by simp [show (Kd.slice e (Kd.int .i64)).sz = 1 from rfl]] at this; exact ⟨ad, A0, c0, e', this, hl, hC⟩
/-- A bounds-checked read. -/
def at1 {α : Type} (d : α) (xs : List α) (i : Int) : Option α := if 0 ≤ i ∧ i < (xs.length : Int) then some (rdOf d xs i) else none
def nextM (group one : List Int) (ns : List (List Int)) (g c : Int) : Option Int :=
 (at1 0 one g).bind fun i => (at1 [] ns i).bind fun row => (at1 0 row c).bind fun j => at1 0 group j
theorem at1_some {α : Type} {d : α} {xs : List α} {i : Int} {r : α} (h : at1 d xs i = some r) : 0 ≤ i ∧ i < (xs.length : Int) ∧ r = rdOf d xs i := by
 unfold at1 at h
 split at h
 ·next hc => exact ⟨hc.1, hc.2, (Option.some.inj h).symm⟩
 ·cases h
theorem merged2_clo {w : World} {gm go gg : Nat} {tapes start : Int} {ac : List Bool} {ns : List (List Int)} {one group : List Int} (hm : MachAt w gm tapes start ac ns) (ho : VarAt w go one) (hg : VarAt w gg group) :
  CloOK Tryd.prog w 147 #[.pointer (some ⟨gg, 0, none⟩), .pointer (some ⟨gm, 0, none⟩), .pointer (some ⟨go, 0, none⟩)] (fun x : Int × Int => #[.int .i64 x.1, .int .i64 x.2]) (fun x => nextM group one ns x.1 x.2) (Value.int .i64) := by
 refine ⟨⟨_, Tryd.func147, by kernel_rfl, rfl⟩, fun x r W hb h => ?_⟩; obtain ⟨Aa, ca, An, cn, b1, hC1, hC2⟩ := hm.below hb; obtain ⟨Ao, co, b2, hCo⟩ := ho.below hb; obtain ⟨Ag, cg, b3, hCg⟩ := hg.below hb; clear hm ho hg hb; obtain ⟨x, c⟩ := x; have h' : nextM group one ns x c = some r := h; clear h; obtain ⟨i, h1, h⟩ := Option.bind_eq_some_iff.mp h'; obtain ⟨row, h2, h⟩ := Option.bind_eq_some_iff.mp h; obtain ⟨j, h3, h4⟩ := Option.bind_eq_some_iff.mp h; clear h' h; obtain ⟨p0, q0, ei⟩ := at1_some h1; obtain ⟨p1, q1, er⟩ := at1_some h2; obtain ⟨p2, q2, ej⟩ := at1_some h3; obtain ⟨p3, q3, eo⟩ := at1_some h4; clear h1 h2 h3 h4; obtain ⟨ad1, e1, hx1⟩ := Kd.at_int hCo x p0 q0; obtain ⟨ad2, A2, c2, e2, hx2, hl2, hC3⟩ := at_rows hC2 i p1 q1; rw [show rdR ns i = row from er.symm] at hx2 hl2 hC3; obtain ⟨ad3, e3, hx3⟩ := Kd.at_int hC3 c p2 q2; obtain ⟨ad4, e4, hx4⟩ := Kd.at_int hCg j p3 q3; subst e1; subst e2; subst e3; subst e4; rw [show rd one x = i from ei.symm] at hx1; rw [show rd row c = j from ej.symm] at hx3; rw [show rd group j = r from eo.symm] at hx4; have m3 : W.cell? ⟨gm, 3, none⟩ = some (.slice (some ad2) ns.length cn) := (blk_cell b1 3).trans rfl; have v0 : W.cell? ⟨go, 0, none⟩ = some (.slice (some ad1) one.length co) := (blk_cell b2 0).trans rfl; have v1 : W.cell? ⟨gg, 0, none⟩ = some (.slice (some ad4) group.length cg) := (blk_cell b3 0).trans rfl; clear b1 b2 b3 hC1 hC2 hC3 hCo hCg ei er ej eo; replace p0 := eq_true p0; replace q0 := eq_true q0; replace p1 := eq_true p1; replace q1 := eq_true q1; replace p2 := eq_true p2; replace q2 := eq_true q2; replace p3 := eq_true p3; replace q3 := eq_true q3; show Calls Tryd.prog 147 #[.int .i64 x, .int .i64 c, .pointer (some ⟨gg, 0, none⟩), .pointer (some ⟨gm, 0, none⟩), .pointer (some ⟨go, 0, none⟩)] W fun e W' => e = .returned (.int .i64 r) ∧ Below W.heap.size W W'; go_enter Tryd.func147, Tryd.ntmps147; go_wp2
 repeat (go_quiet (fail); try go_wp2)
 go_ret; exact ⟨rfl, by repeat (first | exact Below.refl _ _ | apply pw_below_drewN | apply below_drew1)⟩
def accT (ac : List Bool) (p : Int × Int) : Option Bool := if 0 ≤ p.2 then at1 false ac p.1 else some false
theorem tidy1_clo {w : World} {gm : Nat} {tapes start : Int} {ac : List Bool} {ns : List (List Int)} (hm : MachAt w gm tapes start ac ns) :
  CloOK Tryd.prog w 139 #[.pointer (some ⟨gm, 0, none⟩)] (fun x : Int × Int => #[.agg #[.int .i64 x.1, .int .i64 x.2]]) (accT ac) Value.bool := by
 refine ⟨⟨_, Tryd.func139, by kernel_rfl, rfl⟩, fun x r W hb h => ?_⟩; obtain ⟨Aa, ca, An, cn, b1, hC1, hC2⟩ := hm.below hb; clear hm hb; obtain ⟨s, p⟩ := x; have h' : (if 0 ≤ p then at1 false ac s else some false) = some r := h; clear h; show Calls Tryd.prog 139 #[.agg #[.int .i64 s, .int .i64 p], .pointer (some ⟨gm, 0, none⟩)] W fun e W' => e = .returned (.bool r) ∧ Below W.heap.size W W'; by_cases c : 0 ≤ p
 ·rw [if_pos c] at h'; obtain ⟨p0, q0, e0⟩ := at1_some h'; obtain ⟨ad1, e1, hx1⟩ := Kd.at_bool hC1 s p0 q0; subst e1; rw [show rdOf false ac s = r from e0.symm] at hx1; have m2 : W.cell? ⟨gm, 2, none⟩ = some (.slice (some ad1) ac.length ca) := (blk_cell b1 2).trans rfl; have m2' : (W.alloc (.cells #[.int .i64 s, .int .i64 p] 128)).cell? ⟨gm, 2, none⟩ = some (.slice (some ad1) ac.length ca) := pw_cell_below (below_alloc (Below.refl _ _) _) m2; have hx1' : (W.alloc (.cells #[.int .i64 s, .int .i64 p] 128)).cell? (ad1.add s.toNat) = some (.bool r) := pw_cell_below (below_alloc (Below.refl _ _) _) hx1; clear m2 hx1; have c1 : decide (p ≥ 0) = true := decide_eq_true c; have c2 : decide (0 ≤ p) = true := decide_eq_true c; clear b1 hC1 hC2 h' e0 c; replace p0 := eq_true p0; replace q0 := eq_true q0; go_enter Tryd.func139, Tryd.ntmps139; go_wp2
  repeat (go_quiet (fail); try go_wp2)
  go_ret; exact ⟨rfl, by repeat (first | exact Below.refl _ _ | apply below_alloc | apply pw_below_drewN | apply below_drew1)⟩
 ·rw [if_neg c] at h'; obtain rfl := Option.some.inj h'; have c1 : decide (p ≥ 0) = false := decide_eq_false c; have c2 : decide (0 ≤ p) = false := decide_eq_false c; clear b1 hC1 hC2 h' c; go_enter Tryd.func139, Tryd.ntmps139; go_wp2
  repeat (go_quiet (fail); try go_wp2)
  go_ret; exact ⟨rfl, by repeat (first | exact Below.refl _ _ | apply below_alloc | apply pw_below_drewN | apply below_drew1)⟩
def nextT (pads : List Int) (ns : List (List Int)) (x : Int × Int) (c : Int) : Option (Int × Int) :=
 if x.2 < 0 then some (0, -1) else (at1 0 pads c).bind fun pc => if bits .andNot .i64 x.2 pc = 0 then ((at1 [] ns x.1).bind fun row => (at1 0 row c).bind fun q => some (q, pc)) else some (0, -1)
theorem tidy2_clo {w : World} {gm gp : Nat} {tapes start : Int} {ac : List Bool} {ns : List (List Int)} {pads : List Int} (hm : MachAt w gm tapes start ac ns) (hp : VarAt w gp pads) :
  CloOK Tryd.prog w 140 #[.pointer (some ⟨gp, 0, none⟩), .pointer (some ⟨gm, 0, none⟩)] (fun x : (Int × Int) × Int => #[.agg #[.int .i64 x.1.1, .int .i64 x.1.2], .int .i64 x.2]) (fun x => nextT pads ns x.1 x.2) (fun r : Int × Int => .agg #[.int .i64 r.1, .int .i64 r.2]) := by
 refine ⟨⟨_, Tryd.func140, by kernel_rfl, rfl⟩, fun x r W hb h => ?_⟩; obtain ⟨Aa, ca, An, cn, b1, hC1, hC2⟩ := hm.below hb; obtain ⟨Ap, cp, b2, hCp⟩ := hp.below hb; clear hm hp hb; obtain ⟨⟨s, p⟩, c⟩ := x; have h' : nextT pads ns (s, p) c = some r := h; clear h; unfold nextT at h'; show Calls Tryd.prog 140 #[.agg #[.int .i64 s, .int .i64 p], .int .i64 c, .pointer (some ⟨gp, 0, none⟩), .pointer (some ⟨gm, 0, none⟩)] W fun e W' => e = .returned (.agg #[.int .i64 r.1, .int .i64 r.2]) ∧ Below W.heap.size W W'; have HW : ∀ n, Below W.heap.size W (((W.alloc (.cells #[.int .i64 s, .int .i64 p] 128)).alloc (.cells #[.int .i64 0, .int .i64 0] 128)).drewN n) := fun n => pw_below_drewN (((Below.refl _ W).alloc (Nat.le_refl _) _).alloc (by simp) _) n; by_cases c0 : p < 0
 ·rw [if_pos c0] at h'; obtain rfl := Option.some.inj h'; have c1 : decide (p < 0) = true := decide_eq_true c0; clear h' c0 b1 b2 hC1 hC2 hCp; go_enter Tryd.func140, Tryd.ntmps140; go_wp2
  repeat (go_quiet (fail); try go_wp2)
  refine bodyPost_ret (v := .agg #[.int .i64 0, .int .i64 (-1)]) (by simp [results, Tryd.results140, go_sem]) rfl ⟨rfl, ?_⟩; exact ((HW _).setCell (by simp) _).setCell (by simp) _
 ·rw [if_neg c0] at h'; have c1 : decide (p < 0) = false := decide_eq_false c0; obtain ⟨pc, h1, h'⟩ := Option.bind_eq_some_iff.mp h'; obtain ⟨p0, q0, e0⟩ := at1_some h1; obtain ⟨ad4, e4, hx4⟩ := Kd.at_int hCp c p0 q0; subst e4; rw [show rd pads c = pc from e0.symm] at hx4; clear h1 e0 c0; generalize hWE : ((W.alloc (.cells #[.int .i64 s, .int .i64 p] 128)).alloc (.cells #[.int .i64 0, .int .i64 0] 128)) = WE at HW; (have hbE : Below W.heap.size W WE := by rw [← hWE]; exact ((Below.refl _ W).alloc (Nat.le_refl _) _).alloc (by simp) _); have x4 : WE.cell? (ad4.add c.toNat) = some (.int .i64 pc) := pw_cell_below hbE hx4; have v0 : WE.cell? ⟨gp, 0, none⟩ = some (.slice (some ad4) pads.length cp) := pw_cell_below hbE ((blk_cell b2 0).trans rfl); (have k0 : WE.heap[W.heap.size]? = some (.cells #[.int .i64 s, .int .i64 p] 128 (0, 0)) := by rw [← hWE]; exact blk_alloc (blk_new W _) _); (have k1 : WE.heap[W.heap.size + 1]? = some (.cells #[.int .i64 0, .int .i64 0] 128 (0, 0)) := by rw [← hWE]; have q_ := blk_new (W.alloc (.cells #[.int .i64 s, .int .i64 p] 128)) (.cells #[.int .i64 0, .int .i64 0] 128); simpa using q_); replace p0 := eq_true p0; replace q0 := eq_true q0; by_cases cz : bits .andNot .i64 p pc = 0
  ·rw [if_pos cz] at h'; obtain ⟨row, h2, h'⟩ := Option.bind_eq_some_iff.mp h'; obtain ⟨q, h3, h'⟩ := Option.bind_eq_some_iff.mp h'; obtain rfl := Option.some.inj h'; obtain ⟨p1, q1, e1⟩ := at1_some h2; obtain ⟨p2, q2, e2⟩ := at1_some h3; obtain ⟨ad2, A2, c2, e2', hx2, hl2, hC3⟩ := at_rows hC2 s p1 q1; rw [show rdR ns s = row from e1.symm] at hx2 hl2 hC3; obtain ⟨ad3, e3, hx3⟩ := Kd.at_int hC3 c p2 q2; subst e2'; subst e3; rw [show rd row c = q from e2.symm] at hx3; have m3 : WE.cell? ⟨gm, 3, none⟩ = some (.slice (some ad2) ns.length cn) := pw_cell_below hbE ((blk_cell b1 3).trans rfl); have x2 : WE.cell? (ad2.add s.toNat) = some (.slice (some ad3) row.length c2) := pw_cell_below hbE hx2; have x3 : WE.cell? (ad3.add c.toNat) = some (.int .i64 q) := pw_cell_below hbE hx3; have c3 : (bits .andNot .i64 p pc != 0) = false := bne_eq_false_iff_eq.mpr cz; have y0 := (blk_cell k0 0).trans rfl; replace y0 : WE.cell? ⟨W.heap.size, 0, none⟩ = some (.int .i64 s) := y0; have y1 : WE.cell? ⟨W.heap.size, 1, none⟩ = some (.int .i64 p) := (blk_cell k0 1).trans rfl; replace p1 := eq_true p1; replace q1 := eq_true q1; replace p2 := eq_true p2; replace q2 := eq_true q2; clear h2 h3 h' e1 e2 hl2 hx2 hx3 hx4 hC1 hC2 hC3 hCp b1 b2 cz; go_enter Tryd.func140, Tryd.ntmps140; go_wp2
   try rw [hWE]
   repeat (go_quiet (fail); try go_wp2)
   have hd : Below WE.heap.size WE ((WE.drewN nq).drew) := below_drew1 (pw_below_drewN (Below.refl _ _) nq); have HE := am (HW nq); have K1 := am (blk_below k1 hd); have HD := am (show Below W.heap.size W ((WE.drewN nq).drew) from below_drew1 (HW nq)); refine start_ (n := 15) (S := fun w' => w'.cell? ⟨gm, 3, none⟩ = some (.slice (some ad2) ns.length cn) ∧ w'.cell? ⟨W.heap.size, 0, none⟩ = some (.int .i64 s) ∧ w'.cell? (ad2.add s.toNat) = some (.slice (some ad3) row.length c2) ∧ w'.cell? (ad3.add c.toNat) = some (.int .i64 q) ∧ w'.cell? ⟨gp, 0, none⟩ = some (.slice (some ad4) pads.length cp) ∧ w'.cell? (ad4.add c.toNat) = some (.int .i64 pc)) (ds := [14]) #[false, false, false, false, false, false, false, false, false, false, false, false, false, false, false] (by kernel_rfl) rfl rfl ⟨pw_cell_below hd m3, pw_cell_below hd y0, pw_cell_below hd x2, pw_cell_below hd x3, pw_cell_below hd v0, pw_cell_below hd x4⟩ (fun hHeld => ?_); clear hd m3 y0 y1 x2 x3 v0 x4 k0 k1 hWE HW HE hbE
   generalize (WE.drewN nq).drew = w3 at K1 HD hHeld ⊢
   refine pureA 0 (some 21) (bl 15 1) rfl rfl (h := ?_); refine takeA6 1 (some 22) (bl 15 3) hHeld rfl rfl (h := ?_); refine pureA 2 (some 23) (bl 15 7) rfl rfl (h := ?_); refine takeA6 3 (some 24) (bl 15 15) hHeld rfl rfl (h := ?_); refine pureA 4 (some 25) (bl 15 31) rfl rfl (h := ?_); refine takeA6 5 (some 26) (bl 15 63) hHeld rfl rfl (h := ?_); refine pureA 6 (some 27) (bl 15 127) rfl rfl (h := ?_); refine pureA 7 (some 28) (bl 15 255) rfl rfl (h := ?_); refine takeA6 8 (some 29) (bl 15 511) hHeld rfl rfl (h := ?_); refine takeA6 9 (some 30) (bl 15 1023) hHeld rfl rfl (h := ?_); refine pureA 10 (some 31) (bl 15 2047) rfl rfl (h := ?_); refine pureA 11 (some 32) (bl 15 4095) rfl rfl (h := ?_); refine takeA6 12 (some 33) (bl 15 8191) hHeld rfl rfl (h := ?_); refine pureA 13 (some 34) (bl 15 16383) rfl rfl (h := ?_); refine last_ (i := 14) (N := none) (bl 15 32767) rfl rfl (by kernel_rfl) (by decide) (fun K hK => ?_); have z0 : w3.cell? ⟨W.heap.size + 1, 0, none⟩ = some (.int .i64 0) := (blk_cell K1.out 0).trans rfl; have z1 : w3.cell? ⟨W.heap.size + 1, 1, none⟩ = some (.int .i64 0) := (blk_cell K1.out 1).trans rfl; have f0 := blk_frozen K1.out 0; have f1 := blk_frozen K1.out 1; refine skip_ (w1 := (w3.setCell ⟨W.heap.size + 1, 0, none⟩ (.int .i64 q)).setCell ⟨W.heap.size + 1, 1, none⟩ (.int .i64 pc)) (by rfl) rfl ?_ ?_
   ·go_simp
   refine hK.out _ _ ?_; clear hK K; refine done_ (by kernel_rfl) ?_; go_wp2; refine bodyPost_ret (v := .agg #[.int .i64 q, .int .i64 pc]) (by simp [results, Tryd.results140, go_sem, z0, z1]) rfl ⟨rfl, ?_⟩; exact (HD.out.setCell (by simp) _).setCell (by simp) _
  ·rw [if_neg cz] at h'; obtain rfl := Option.some.inj h'; have c3 : (bits .andNot .i64 p pc != 0) = true := bne_iff_ne.mpr cz; have y1 : WE.cell? ⟨W.heap.size, 1, none⟩ = some (.int .i64 p) := (blk_cell k0 1).trans rfl; have z0 : WE.cell? ⟨W.heap.size + 1, 0, none⟩ = some (.int .i64 0) := (blk_cell k1 0).trans rfl; have z1 : WE.cell? ⟨W.heap.size + 1, 1, none⟩ = some (.int .i64 0) := (blk_cell k1 1).trans rfl; have f0 := blk_frozen k1 0; have f1 := blk_frozen k1 1; clear h' hx4 hC1 hC2 hCp b1 b2 cz; go_enter Tryd.func140, Tryd.ntmps140; go_wp2
   try rw [hWE]
   repeat (go_quiet (fail); try go_wp2)
   refine bodyPost_ret (v := .agg #[.int .i64 0, .int .i64 (-1)]) (by simp [results, Tryd.results140, go_sem, z0, z1]) rfl ⟨rfl, ?_⟩; exact ((HW _).setCell (by simp) _).setCell (by simp) _
end Go.Proofs.YtocfcpicleomcaaDoor.X
