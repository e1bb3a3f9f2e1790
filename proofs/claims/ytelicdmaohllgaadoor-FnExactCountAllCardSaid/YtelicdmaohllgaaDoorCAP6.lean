import Derived.Test.YtelicdmaohllgaaDoorCAP2
import Derived.Test.YtelicdmaohllgaaDoorCAP5
import Derived.Test.YtelicdmaohllgaaDoorCAP3
import Derived.Carry
import Derived.Outline
namespace Go.Proofs.YtelicdmaohllgaaDoor.X
set_option maxHeartbeats 16000000
set_option maxRecDepth 100000
open Go.RowKit Go.Proofs.YtelicdmaohllgaaDoorW.PrintWords Go.Proofs.YtelicdmaohllgaaDoorW.PrintLast Go.Proofs.YtelicdmaohllgaaDoorW.PrintMore
attribute [local go_sem] max2_int min2_int max_two min_two max_three min_three max_four min_four
set_option linter.unusedVariables false
set_option linter.unusedSimpArgs false
/-- A relation that is read at some address. -/
def IsP38 (w0 W : World) (p0 : Addr) (f0 f1 : Int) (f2 : List Bool) (f3 : List (List Int)) : Prop := ∃ A2 c2, ∃ A3 c3, W.cell? p0 = some (.int .i64 f0) ∧ W.cell? ⟨p0.block, p0.off + 1, none⟩ = some (.int .i64 f1) ∧ W.cell? ⟨p0.block, p0.off + 2, none⟩ = some (.slice A2 f2.length c2) ∧ W.cell? ⟨p0.block, p0.off + 3, none⟩ = some (.slice A3 f3.length c3) ∧ Kd.C Kd.bool w0 A2 f2.length f2 ∧ Kd.C (Kd.slice 2 (Kd.int .i64)) w0 A3 f3.length f3
theorem IsP38.below {w0 W W1 : World} {p0 : Addr} {f0 f1 : Int} {f2 : List Bool} {f3 : List (List Int)} (h : IsP38 w0 W p0 f0 f1 f2 f3) (hb : Below W.heap.size W W1) : IsP38 w0 W1 p0 f0 f1 f2 f3 := by
 obtain ⟨A2, c2, A3, c3, h0, h1, h2, h3, h4⟩ := h; exact ⟨A2, c2, A3, c3, pw_cell_below hb h0, pw_cell_below hb h1, pw_cell_below hb h2, pw_cell_below hb h3, h4⟩
theorem IsP38.drewN {w0 W : World} {p0 : Addr} {f0 f1 : Int} {f2 : List Bool} {f3 : List (List Int)} (h : IsP38 w0 W p0 f0 f1 f2 f3) (n : Nat) : IsP38 w0 (W.drewN n) p0 f0 f1 f2 f3 := h.below (pw_below_drewN (Below.refl _ _) n)
theorem IsP38.drew {w0 W : World} {p0 : Addr} {f0 f1 : Int} {f2 : List Bool} {f3 : List (List Int)} (h : IsP38 w0 W p0 f0 f1 f2 f3) : IsP38 w0 W.drew p0 f0 f1 f2 f3 := h.below (below_drew1 (Below.refl _ _))
theorem IsP38.alloc {w0 W : World} {p0 : Addr} {f0 f1 : Int} {f2 : List Bool} {f3 : List (List Int)} (h : IsP38 w0 W p0 f0 f1 f2 f3) (o : Obj) : IsP38 w0 (W.alloc o) p0 f0 f1 f2 f3 := h.below (below_alloc (Below.refl _ _) o)
mutual
def spec_l01Form.j0 : Nat → Int → Bool → Int → Int → List Bool → List (List Int) → Option (Bool × Int × Int)
 | 0, _, _, _, _, _, _ => none
 | k + 1, x3, x39, x1000, x1001, x1002, x1003 => if x39 = true then (some (false, x1000, x1001)) else (spec_l01Form.l0 k x3 0 x1000 x1001 x1002 x1003)
def spec_l01Form.l0 : Nat → Int → Int → Int → Int → List Bool → List (List Int) → Option (Bool × Int × Int)
 | 0, _, _, _, _, _, _ => none
 | k + 1, x3, x4, x1000, x1001, x1002, x1003 => if x4 < (x1003.length : Int) then (if 0 ≤ x4 then ((spec_l01Wide.f k x1000).bind fun t413 => (if ((rd_L5 x1003 x4).length : Int) = t413 then (spec_l01Form.l1 k x3 x4 0 x1000 x1001 x1002 x1003) else (some (false, x1000, x1001)))) else (none)) else (some (true, x1000, x1001))
def spec_l01Form.l1 : Nat → Int → Int → Int → Int → Int → List Bool → List (List Int) → Option (Bool × Int × Int)
 | 0, _, _, _, _, _, _, _ => none
 | k + 1, x3, x4, x5, x1000, x1001, x1002, x1003 => if 0 ≤ x4 then (if x4 < (x1003.length : Int) then (if x5 < ((rd_L5 x1003 x4).length : Int) then (if 0 ≤ x5 then ((spec_l00In.f (rd (rd_L5 x1003 x4) x5) 0 (wrap64 (x3 - 1))).bind fun t417 => (if t417 = true then (spec_l01Form.l1 k x3 x4 (wrap64 (x5 + 1)) x1000 x1001 x1002 x1003) else (some (false, x1000, x1001)))) else (none)) else (spec_l01Form.l0 k x3 (wrap64 (x4 + 1)) x1000 x1001 x1002 x1003)) else (none)) else (none)
end
def spec_l01Form.f (k : Nat) (s0_0 : Int) (s0_1 : Int) (s0_2 : List Bool) (s0_3 : List (List Int)) : Option (Bool × Int × Int) := (spec_l00In.f s0_0 1 3).bind fun t410 => (if t410 = true then (if (s0_2.length : Int) < 1 then (spec_l01Form.j0 k (s0_2.length : Int) true s0_0 s0_1 s0_2 s0_3) else ((spec_l00In.f s0_1 0 (wrap64 ((s0_2.length : Int) - 1))).bind fun t411 => (if t411 = true then (spec_l01Form.j0 k (s0_2.length : Int) ((s0_3.length : Int) != (s0_2.length : Int)) s0_0 s0_1 s0_2 s0_3) else (spec_l01Form.j0 k (s0_2.length : Int) true s0_0 s0_1 s0_2 s0_3)))) else (spec_l01Form.j0 k (s0_2.length : Int) true s0_0 s0_1 s0_2 s0_3))
theorem tIp {p : Prop} (h : p := by repeat (first | (with_reducible first | exact HI0.out | apply IsP38.alloc | apply IsP38.drewN | apply IsP38.drew) | exact HI0.out)) : p := h
theorem spec_l01Form.atcalls (k : Nat) (p0 : Addr) (s0_0 : Int) (s0_1 : Int) (s0_2 : List Bool) (s0_3 : List (List Int)) (r1 : Bool) (r2 : Int) (r3 : Int) (w0 w : World) (hI : IsP38 w0 w p0 s0_0 s0_1 s0_2 s0_3) (hB : Below w0.heap.size w0 w) (h : spec_l01Form.f k s0_0 s0_1 s0_2 s0_3 = some (r1, r2, r3)) :
  Calls Tryd.prog 125 #[.pointer (some p0)] w fun e w' => e = .returned (.bool r1) ∧ IsP38 w0 w' p0 r2 r3 s0_2 s0_3 ∧ Below w0.heap.size w0 w' ∧ KeepBut w w' p0.block none := by
 have HI0 := am hI; have HK := am (KeepBut.refl w p0.block none); have HL := am hB.size; clear hI; have HW0 := am hB.size; have HB := am hB; clear hB; have H : ((spec_l00In.f s0_0 1 3).bind fun t410 => (if t410 = true then (if (s0_2.length : Int) < 1 then (spec_l01Form.j0 k (s0_2.length : Int) true s0_0 s0_1 s0_2 s0_3) else ((spec_l00In.f s0_1 0 (wrap64 ((s0_2.length : Int) - 1))).bind fun t411 => (if t411 = true then (spec_l01Form.j0 k (s0_2.length : Int) ((s0_3.length : Int) != (s0_2.length : Int)) s0_0 s0_1 s0_2 s0_3) else (spec_l01Form.j0 k (s0_2.length : Int) true s0_0 s0_1 s0_2 s0_3)))) else (spec_l01Form.j0 k (s0_2.length : Int) true s0_0 s0_1 s0_2 s0_3))) = some (r1, r2, r3) := h; clear h; have HC2 := am H; clear H; obtain ⟨ASz3_2, cSz3_2, ASz3_3, cSz3_3, hcz3_0, hcz3_1, hcz3_2, hcz3_3, HSz3_2, HSz3_3⟩ := HI0.out; go_enter Tryd.func125, Tryd.ntmps125
 go_upto_region 2 with (fail)
 repeat (go_quiet (fail); go_upto_region 2 with (fail))
 go_cut [39] (fun v39 wc => ∃ (kq : Nat) (x39_1 : Bool), v39 = .bool x39_1 ∧ Aside0 (spec_l01Form.j0 kq (s0_2.length : Int) x39_1 s0_0 s0_1 s0_2 s0_3 = some (r1, r2, r3)) ∧ Aside0 (kq ≤ k) ∧ Aside0 (IsP38 w0 wc p0 s0_0 s0_1 s0_2 s0_3) ∧ Aside0 (KeepBut w wc p0.block none) ∧ Aside0 (Below w0.heap.size w0 wc))
 case first =>
  have H := HC2.out; clear HC2; obtain ⟨t410, A40, H⟩ := oB H; replace H : (if t410 = true then (if (s0_2.length : Int) < 1 then (spec_l01Form.j0 k (s0_2.length : Int) true s0_0 s0_1 s0_2 s0_3) else ((spec_l00In.f s0_1 0 (wrap64 ((s0_2.length : Int) - 1))).bind fun t411 => (if t411 = true then (spec_l01Form.j0 k (s0_2.length : Int) ((s0_3.length : Int) != (s0_2.length : Int)) s0_0 s0_1 s0_2 s0_3) else (spec_l01Form.j0 k (s0_2.length : Int) true s0_0 s0_1 s0_2 s0_3)))) else (spec_l01Form.j0 k (s0_2.length : Int) true s0_0 s0_1 s0_2 s0_3)) = some (r1, r2, r3) := H; have A4 := am A40; clear A40; by_cases c5 : t410 = true
  ·subst c5; (have H1 : (if (s0_2.length : Int) < 1 then (spec_l01Form.j0 k (s0_2.length : Int) true s0_0 s0_1 s0_2 s0_3) else ((spec_l00In.f s0_1 0 (wrap64 ((s0_2.length : Int) - 1))).bind fun t411 => (if t411 = true then (spec_l01Form.j0 k (s0_2.length : Int) ((s0_3.length : Int) != (s0_2.length : Int)) s0_0 s0_1 s0_2 s0_3) else (spec_l01Form.j0 k (s0_2.length : Int) true s0_0 s0_1 s0_2 s0_3)))) = some (r1, r2, r3) := by rw [if_pos rfl] at H; exact H); clear H; have H := H1; clear H1; by_cases c6 : (s0_2.length : Int) < 1
   ·rw [if_pos c6] at H; have c6b0 := decide_eq_true c6; have c6b1 : decide (s0_2.length < 1) = true := decide_eq_true (by omega); clear c6
    (first | rw [c6b0] | (simp only [i64_w, i32_w]; rw [c6b0]) | skip)
    have H' := am H; clear H; obtain ⟨ASz7_2, cSz7_2, ASz7_3, cSz7_3, hcz7_0, hcz7_1, hcz7_2, hcz7_3, HSz7_2, HSz7_3⟩ := HI0.out
    go_wp2_with (first | (go_at_call 56; (with_reducible refine (spec_l00In.calls s0_0 1 3 true _ A4.out).mono ?_); rintro e w' ⟨rfl, ⟨nd, rfl⟩⟩; (try first | exact ⟨rfl, _, World.drewN_drewN _ _ _⟩ | exact ⟨rfl, _, Eq.trans (World.drewN_drewN _ _ _) (congrArg (World.drewN _) (Nat.add_assoc _ _ _))⟩)) | go_quiet (first | (go_at_call 56; (with_reducible refine (spec_l00In.calls s0_0 1 3 true _ A4.out).mono ?_); rintro e w' ⟨rfl, ⟨nd, rfl⟩⟩; (try first | exact ⟨rfl, _, World.drewN_drewN _ _ _⟩ | exact ⟨rfl, _, Eq.trans (World.drewN_drewN _ _ _) (congrArg (World.drewN _) (Nat.add_assoc _ _ _))⟩))))
    go_meet
    case rel => exact ⟨_, (true), (tF), H', ⟨by first | omega | exact Nat.le_refl _⟩, ⟨tIp⟩, ⟨tK⟩, ⟨tB⟩⟩
   ·rw [if_neg c6] at H; have c6b0 := decide_eq_false c6; have c6b1 : decide (s0_2.length < 1) = false := decide_eq_false (by omega); clear c6
    (first | rw [c6b0] | (simp only [i64_w, i32_w]; rw [c6b0]) | skip)
    obtain ⟨t411, A80, H⟩ := oB H; replace H : (if t411 = true then (spec_l01Form.j0 k (s0_2.length : Int) ((s0_3.length : Int) != (s0_2.length : Int)) s0_0 s0_1 s0_2 s0_3) else (spec_l01Form.j0 k (s0_2.length : Int) true s0_0 s0_1 s0_2 s0_3)) = some (r1, r2, r3) := H; have A8 := am A80; clear A80; by_cases c9 : t411 = true
    ·subst c9; (have H1 : (spec_l01Form.j0 k (s0_2.length : Int) ((s0_3.length : Int) != (s0_2.length : Int)) s0_0 s0_1 s0_2 s0_3) = some (r1, r2, r3) := by rw [if_pos rfl] at H; exact H); clear H; have H := H1; clear H1; have H' := am H; clear H; obtain ⟨ASz10_2, cSz10_2, ASz10_3, cSz10_3, hcz10_0, hcz10_1, hcz10_2, hcz10_3, HSz10_2, HSz10_3⟩ := HI0.out
     go_wp2_with (first | (go_at_call 56; (with_reducible refine (spec_l00In.calls s0_0 1 3 true _ A4.out).mono ?_); rintro e w' ⟨rfl, ⟨nd, rfl⟩⟩; (try first | exact ⟨rfl, _, World.drewN_drewN _ _ _⟩ | exact ⟨rfl, _, Eq.trans (World.drewN_drewN _ _ _) (congrArg (World.drewN _) (Nat.add_assoc _ _ _))⟩)) | (go_at_call 56; (with_reducible refine (spec_l00In.calls s0_1 0 (wrap64 ((s0_2.length : Int) - 1)) true _ A8.out).mono ?_); rintro e w' ⟨rfl, ⟨nd, rfl⟩⟩; (try first | exact ⟨rfl, _, World.drewN_drewN _ _ _⟩ | exact ⟨rfl, _, Eq.trans (World.drewN_drewN _ _ _) (congrArg (World.drewN _) (Nat.add_assoc _ _ _))⟩)) | go_quiet (first | (go_at_call 56; (with_reducible refine (spec_l00In.calls s0_0 1 3 true _ A4.out).mono ?_); rintro e w' ⟨rfl, ⟨nd, rfl⟩⟩; (try first | exact ⟨rfl, _, World.drewN_drewN _ _ _⟩ | exact ⟨rfl, _, Eq.trans (World.drewN_drewN _ _ _) (congrArg (World.drewN _) (Nat.add_assoc _ _ _))⟩)) | (go_at_call 56; (with_reducible refine (spec_l00In.calls s0_1 0 (wrap64 ((s0_2.length : Int) - 1)) true _ A8.out).mono ?_); rintro e w' ⟨rfl, ⟨nd, rfl⟩⟩; (try first | exact ⟨rfl, _, World.drewN_drewN _ _ _⟩ | exact ⟨rfl, _, Eq.trans (World.drewN_drewN _ _ _) (congrArg (World.drewN _) (Nat.add_assoc _ _ _))⟩))))
     go_meet
     case rel => exact ⟨_, (((s0_3.length : Int) != (s0_2.length : Int))), (tF), H', ⟨by first | omega | exact Nat.le_refl _⟩, ⟨tIp⟩, ⟨tK⟩, ⟨tB⟩⟩
    ·replace c9 := Bool.eq_false_iff.mpr c9; subst c9; (have H1 : (spec_l01Form.j0 k (s0_2.length : Int) true s0_0 s0_1 s0_2 s0_3) = some (r1, r2, r3) := by rw [if_neg (show ¬ (false = true) by decide)] at H; exact H); clear H; have H := H1; clear H1; have H' := am H; clear H; obtain ⟨ASz11_2, cSz11_2, ASz11_3, cSz11_3, hcz11_0, hcz11_1, hcz11_2, hcz11_3, HSz11_2, HSz11_3⟩ := HI0.out
     go_wp2_with (first | (go_at_call 56; (with_reducible refine (spec_l00In.calls s0_0 1 3 true _ A4.out).mono ?_); rintro e w' ⟨rfl, ⟨nd, rfl⟩⟩; (try first | exact ⟨rfl, _, World.drewN_drewN _ _ _⟩ | exact ⟨rfl, _, Eq.trans (World.drewN_drewN _ _ _) (congrArg (World.drewN _) (Nat.add_assoc _ _ _))⟩)) | (go_at_call 56; (with_reducible refine (spec_l00In.calls s0_1 0 (wrap64 ((s0_2.length : Int) - 1)) false _ A8.out).mono ?_); rintro e w' ⟨rfl, ⟨nd, rfl⟩⟩; (try first | exact ⟨rfl, _, World.drewN_drewN _ _ _⟩ | exact ⟨rfl, _, Eq.trans (World.drewN_drewN _ _ _) (congrArg (World.drewN _) (Nat.add_assoc _ _ _))⟩)) | go_quiet (first | (go_at_call 56; (with_reducible refine (spec_l00In.calls s0_0 1 3 true _ A4.out).mono ?_); rintro e w' ⟨rfl, ⟨nd, rfl⟩⟩; (try first | exact ⟨rfl, _, World.drewN_drewN _ _ _⟩ | exact ⟨rfl, _, Eq.trans (World.drewN_drewN _ _ _) (congrArg (World.drewN _) (Nat.add_assoc _ _ _))⟩)) | (go_at_call 56; (with_reducible refine (spec_l00In.calls s0_1 0 (wrap64 ((s0_2.length : Int) - 1)) false _ A8.out).mono ?_); rintro e w' ⟨rfl, ⟨nd, rfl⟩⟩; (try first | exact ⟨rfl, _, World.drewN_drewN _ _ _⟩ | exact ⟨rfl, _, Eq.trans (World.drewN_drewN _ _ _) (congrArg (World.drewN _) (Nat.add_assoc _ _ _))⟩))))
     go_meet
     case rel => exact ⟨_, (true), (tF), H', ⟨by first | omega | exact Nat.le_refl _⟩, ⟨tIp⟩, ⟨tK⟩, ⟨tB⟩⟩
  ·replace c5 := Bool.eq_false_iff.mpr c5; subst c5; (have H1 : (spec_l01Form.j0 k (s0_2.length : Int) true s0_0 s0_1 s0_2 s0_3) = some (r1, r2, r3) := by rw [if_neg (show ¬ (false = true) by decide)] at H; exact H); clear H; have H := H1; clear H1; have H' := am H; clear H; obtain ⟨ASz12_2, cSz12_2, ASz12_3, cSz12_3, hcz12_0, hcz12_1, hcz12_2, hcz12_3, HSz12_2, HSz12_3⟩ := HI0.out
   go_wp2_with (first | (go_at_call 56; (with_reducible refine (spec_l00In.calls s0_0 1 3 false _ A4.out).mono ?_); rintro e w' ⟨rfl, ⟨nd, rfl⟩⟩; (try first | exact ⟨rfl, _, World.drewN_drewN _ _ _⟩ | exact ⟨rfl, _, Eq.trans (World.drewN_drewN _ _ _) (congrArg (World.drewN _) (Nat.add_assoc _ _ _))⟩)) | go_quiet (first | (go_at_call 56; (with_reducible refine (spec_l00In.calls s0_0 1 3 false _ A4.out).mono ?_); rintro e w' ⟨rfl, ⟨nd, rfl⟩⟩; (try first | exact ⟨rfl, _, World.drewN_drewN _ _ _⟩ | exact ⟨rfl, _, Eq.trans (World.drewN_drewN _ _ _) (congrArg (World.drewN _) (Nat.add_assoc _ _ _))⟩))))
   go_meet
   case rel => exact ⟨_, (true), (tF), H', ⟨by first | omega | exact Nat.le_refl _⟩, ⟨tIp⟩, ⟨tK⟩, ⟨tB⟩⟩
 case rest =>
  clear HC2
  try clear c1; try clear p2; try clear c5; try clear c6; try clear c6b0; try clear c6b1; try clear p6; try clear c9; try clear c12; try clear hcz10_0; try clear hcz10_1; try clear hcz10_2; try clear hcz10_3; try clear hcz11_0; try clear hcz11_1; try clear hcz11_2; try clear hcz11_3; try clear hcz12_0; try clear hcz12_1; try clear hcz12_2; try clear hcz12_3; try clear hcz3_0; try clear hcz3_1; try clear hcz3_2; try clear hcz3_3; try clear hcz7_0; try clear hcz7_1; try clear hcz7_2; try clear hcz7_3; try clear hfz10_0; try clear hfz10_1; try clear hfz11_0; try clear hfz11_1; try clear hfz12_0; try clear hfz12_1; try clear hfz3_0; try clear hfz3_1; try clear hfz7_0; try clear hfz7_1
  obtain ⟨kq, x39_1, rfl, HA, HJ1, HI0, HK, HB⟩ := hcut
  cases kq with
  | zero => exact absurd HA.out (by simp [spec_l01Form.j0])
  | succ kj1 =>
   have H := HA.out; clear HA; simp only [spec_l01Form.j0] at H; by_cases c13 : x39_1 = true
   ·subst c13; (have H1 : (some (false, s0_0, s0_1)) = some (r1, r2, r3) := by rw [if_pos rfl] at H; exact H); clear H; have H := H1; clear H1; simp only [Option.some.injEq, Prod.mk.injEq] at H; obtain ⟨rfl, rfl, rfl⟩ := H; go_wp2
    repeat (go_quiet (fail); try go_wp2)
    go_ret; exact ⟨tE, tIp, tB, tK⟩
   ·replace c13 := Bool.eq_false_iff.mpr c13; subst c13; (have H1 : (spec_l01Form.l0 kj1 (s0_2.length : Int) 0 s0_0 s0_1 s0_2 s0_3) = some (r1, r2, r3) := by rw [if_neg (show ¬ (false = true) by decide)] at H; exact H); clear H; have H := H1; clear H1; have H' := am H; clear H; go_wp2
    repeat (go_quiet (fail); try go_wp2)
    go_loopg [4] kj1 (fun kq v4 w' => ∃ (x4_2 : Int), v4 = .int .i64 x4_2 ∧ Aside0 (spec_l01Form.l0 kq (s0_2.length : Int) x4_2 s0_0 s0_1 s0_2 s0_3 = some (r1, r2, r3)) ∧ Aside0 (kq ≤ kj1) ∧ Aside0 (IsP38 w0 w' p0 s0_0 s0_1 s0_2 s0_3) ∧ Aside0 (KeepBut w w' p0.block none) ∧ Aside0 (Below w0.heap.size w0 w'))
    case atStart => exact ⟨(0), (tF), H', ⟨Nat.le_refl _⟩, ⟨tIp⟩, ⟨tK⟩, ⟨tB⟩⟩
    case round =>
     clear H'
     try clear c1; try clear p2; try clear c5; try clear c6; try clear c6b0; try clear c6b1; try clear p6; try clear c9; try clear c12; try clear c13; try clear hcz10_0; try clear hcz10_1; try clear hcz10_2; try clear hcz10_3; try clear hcz11_0; try clear hcz11_1; try clear hcz11_2; try clear hcz11_3; try clear hcz12_0; try clear hcz12_1; try clear hcz12_2; try clear hcz12_3; try clear hcz3_0; try clear hcz3_1; try clear hcz3_2; try clear hcz3_3; try clear hcz7_0; try clear hcz7_1; try clear hcz7_2; try clear hcz7_3; try clear hfz10_0; try clear hfz10_1; try clear hfz11_0; try clear hfz11_1; try clear hfz12_0; try clear hfz12_1; try clear hfz3_0; try clear hfz3_1; try clear hfz7_0; try clear hfz7_1; try clear p2; try clear p6
     obtain ⟨x4_2, rfl, HA, HK2, HI0, HK, HB⟩ := hrel
     cases gk with
     | zero => exact absurd HA.out (by simp [spec_l01Form.l0])
     | succ k2 =>
      have H := HA.out; clear HA; simp only [spec_l01Form.l0] at H; by_cases c14 : x4_2 < (s0_3.length : Int)
      ·rw [if_pos c14] at H; have c14b0 := decide_eq_true c14; clear c14; by_cases c15 : 0 ≤ x4_2
       ·rw [if_pos c15] at H; have c15b0 := decide_eq_true c15; clear c15; obtain ⟨t413, A160, H⟩ := oB H; replace H : (if ((rd_L5 s0_3 x4_2).length : Int) = t413 then (spec_l01Form.l1 k2 (s0_2.length : Int) x4_2 0 s0_0 s0_1 s0_2 s0_3) else (some (false, s0_0, s0_1))) = some (r1, r2, r3) := H; have A16 := am A160; clear A160; by_cases c17 : ((rd_L5 s0_3 x4_2).length : Int) = t413
        ·rw [if_pos c17] at H; have c17b0 : (((rd_L5 s0_3 x4_2).length : Int) == t413) = true := beq_iff_eq.mpr c17; have c17b1 : (((rd_L5 s0_3 x4_2).length : Int) != t413) = false := bne_eq_false_iff_eq.mpr c17; clear c17; have H' := am H; clear H; obtain ⟨ASz18_2, cSz18_2, ASz18_3, cSz18_3, hcz18_0, hcz18_1, hcz18_2, hcz18_3, HSz18_2, HSz18_3⟩ := HI0.out; have p412 : 0 ≤ (x4_2 : Int) := oA; have q412 : x4_2 < (s0_3.length : Int) := oA; obtain ⟨ad412, A412_0, c412_0, e412, hx412_0, hl412_0, hi412_0⟩ := at_L5 HSz18_3 x4_2 p412 q412; cases e412; replace hx412_0 := pw_cell_below HB.out hx412_0; have HR412_0 := am hi412_0; have HC412_0 := am hl412_0; clear hi412_0 hl412_0; replace p412 := eq_true p412; replace q412 := eq_true q412
         go_wp2_with (first | (go_at_call 63; (with_reducible refine (spec_l01Wide.calls k2 s0_0 t413 _ A16.out).mono ?_); rintro e w' ⟨rfl, ⟨nd, rfl⟩⟩; (try first | exact ⟨rfl, _, World.drewN_drewN _ _ _⟩ | exact ⟨rfl, _, Eq.trans (World.drewN_drewN _ _ _) (congrArg (World.drewN _) (Nat.add_assoc _ _ _))⟩)) | go_quiet (first | (go_at_call 63; (with_reducible refine (spec_l01Wide.calls k2 s0_0 t413 _ A16.out).mono ?_); rintro e w' ⟨rfl, ⟨nd, rfl⟩⟩; (try first | exact ⟨rfl, _, World.drewN_drewN _ _ _⟩ | exact ⟨rfl, _, Eq.trans (World.drewN_drewN _ _ _) (congrArg (World.drewN _) (Nat.add_assoc _ _ _))⟩))))
         go_loopg [5] k2 (fun kq v5 w' => ∃ (x5_3 : Int), v5 = .int .i64 x5_3 ∧ Aside0 (spec_l01Form.l1 kq (s0_2.length : Int) x4_2 x5_3 s0_0 s0_1 s0_2 s0_3 = some (r1, r2, r3)) ∧ Aside0 (kq ≤ k2) ∧ Aside0 (Kd.C (Kd.int .i64) w' A412_0 (rd_L5 s0_3 x4_2).length (rd_L5 s0_3 x4_2)) ∧ Aside0 (IsP38 w0 w' p0 s0_0 s0_1 s0_2 s0_3) ∧ Aside0 (KeepBut w w' p0.block none) ∧ Aside0 (Below w0.heap.size w0 w'))
         case atStart => exact ⟨(0), (tF), H', ⟨Nat.le_refl _⟩, ⟨by repeat (first | (with_reducible exact HR412_0.out) | (with_reducible exact Kd.C_below HR412_0.out HB.out) | (with_reducible refine Kd.C_alloc ?_ _) | (with_reducible refine Kd.C_drewN ?_ _) | (with_reducible refine Kd.C_drew ?_) | exact HR412_0.out)⟩, ⟨tIp⟩, ⟨tK⟩, ⟨tB⟩⟩
         case round =>
          clear H'
          try clear c1; try clear p2; try clear c4; try clear p4; try clear q4; try clear hx4; try clear c5; try clear c6; try clear c6b0; try clear c6b1; try clear p6; try clear c9; try clear c12; try clear c13; try clear c14; try clear c14b0; try clear c15; try clear c15b0; try clear c17; try clear c17b0; try clear c17b1; try clear hcz10_0; try clear hcz10_1; try clear hcz10_2; try clear hcz10_3; try clear hcz11_0; try clear hcz11_1; try clear hcz11_2; try clear hcz11_3; try clear hcz12_0; try clear hcz12_1; try clear hcz12_2; try clear hcz12_3; try clear hcz18_0; try clear hcz18_1; try clear hcz18_2; try clear hcz18_3; try clear hcz3_0; try clear hcz3_1; try clear hcz3_2; try clear hcz3_3; try clear hcz7_0; try clear hcz7_1; try clear hcz7_2; try clear hcz7_3; try clear hfz10_0; try clear hfz10_1; try clear hfz11_0; try clear hfz11_1; try clear hfz12_0; try clear hfz12_1; try clear hfz18_0; try clear hfz18_1; try clear hfz3_0; try clear hfz3_1; try clear hfz7_0; try clear hfz7_1; try clear hx412_0; try clear p2; try clear p412; try clear p6; try clear q412
          obtain ⟨x5_3, rfl, HA, HK3, HR412_0, HI0, HK, HB⟩ := hrel
          cases gk with
          | zero => exact absurd HA.out (by simp [spec_l01Form.l1])
          | succ k3 =>
           have H := HA.out; clear HA; simp only [spec_l01Form.l1] at H; by_cases c19 : 0 ≤ x4_2
           ·rw [if_pos c19] at H; have c19b0 := decide_eq_true c19; clear c19; by_cases c20 : x4_2 < (s0_3.length : Int)
            ·rw [if_pos c20] at H; have c20b0 := decide_eq_true c20; clear c20; by_cases c21 : x5_3 < ((rd_L5 s0_3 x4_2).length : Int)
             ·rw [if_pos c21] at H; have c21b0 := decide_eq_true c21; clear c21; by_cases c22 : 0 ≤ x5_3
              ·rw [if_pos c22] at H; have c22b0 := decide_eq_true c22; clear c22; obtain ⟨t417, A230, H⟩ := oB H; replace H : (if t417 = true then (spec_l01Form.l1 k3 (s0_2.length : Int) x4_2 (wrap64 (x5_3 + 1)) s0_0 s0_1 s0_2 s0_3) else (some (false, s0_0, s0_1))) = some (r1, r2, r3) := H; have A23 := am A230; clear A230; by_cases c24 : t417 = true
               ·subst c24; (have H1 : (spec_l01Form.l1 k3 (s0_2.length : Int) x4_2 (wrap64 (x5_3 + 1)) s0_0 s0_1 s0_2 s0_3) = some (r1, r2, r3) := by rw [if_pos rfl] at H; exact H); clear H; have H := H1; clear H1; have H' := am H; clear H; obtain ⟨ASz25_2, cSz25_2, ASz25_3, cSz25_3, hcz25_0, hcz25_1, hcz25_2, hcz25_3, HSz25_2, HSz25_3⟩ := HI0.out; have p414 : 0 ≤ (x4_2 : Int) := oA; have q414 : x4_2 < (s0_3.length : Int) := oA; obtain ⟨ad414, A414_0, c414_0, e414, hx414_0, hl414_0, hi414_0⟩ := at_L5 HSz25_3 x4_2 p414 q414; cases e414; replace hx414_0 := pw_cell_below HB.out hx414_0; have HR414_0 := am hi414_0; have HC414_0 := am hl414_0; clear hi414_0 hl414_0; replace p414 := eq_true p414; replace q414 := eq_true q414; have p415 : 0 ≤ (x4_2 : Int) := oA; have q415 : x4_2 < (s0_3.length : Int) := oA; obtain ⟨ad415, A415_0, c415_0, e415, hx415_0, hl415_0, hi415_0⟩ := at_L5 HSz25_3 x4_2 p415 q415; obtain rfl : ad414 = ad415 := (by injection e415); replace hx415_0 := pw_cell_below HB.out hx415_0
                try (have hxe_ := hx414_0.symm.trans hx415_0; injection hxe_ with hxe_; injection hxe_ with hA_ hl_ hc_; subst hA_; subst hc_)
                have HR415_0 := am hi415_0; have HC415_0 := am hl415_0; clear hi415_0 hl415_0; replace p415 := eq_true p415; replace q415 := eq_true q415; have p416 : 0 ≤ (x5_3 : Int) := oA; have q416 : x5_3 < ((rd_L5 s0_3 x4_2).length : Int) := oA; obtain ⟨ad416, e416, hx416_0⟩ := Kd.at_int HR415_0.out x5_3 p416 q416; cases e416; replace hx416_0 := (by first | exact keep_cell HK.out hx416_0 (by first | (rw [add_block]; exact hf415_0 _ rfl (by omega)) | exact hf415_0 _ rfl (by omega) | exact hf415_0 ad416 rfl (by omega)) | exact pw_cell_below HB.out hx416_0); replace p416 := eq_true p416; replace q416 := eq_true q416
                go_wp2_with (first | (go_at_call 56; (with_reducible refine (spec_l00In.calls (rd (rd_L5 s0_3 x4_2) x5_3) 0 (wrap64 ((s0_2.length : Int) - 1)) true _ A23.out).mono ?_); rintro e w' ⟨rfl, ⟨nd, rfl⟩⟩; (try first | exact ⟨rfl, _, World.drewN_drewN _ _ _⟩ | exact ⟨rfl, _, Eq.trans (World.drewN_drewN _ _ _) (congrArg (World.drewN _) (Nat.add_assoc _ _ _))⟩)) | go_quiet (first | (go_at_call 56; (with_reducible refine (spec_l00In.calls (rd (rd_L5 s0_3 x4_2) x5_3) 0 (wrap64 ((s0_2.length : Int) - 1)) true _ A23.out).mono ?_); rintro e w' ⟨rfl, ⟨nd, rfl⟩⟩; (try first | exact ⟨rfl, _, World.drewN_drewN _ _ _⟩ | exact ⟨rfl, _, Eq.trans (World.drewN_drewN _ _ _) (congrArg (World.drewN _) (Nat.add_assoc _ _ _))⟩))))
                go_roundg k3
                case measure => have := HJ1.out; have := HK2.out; have := HK3.out; omega
                case rel => exact ⟨(wrap64 (x5_3 + 1)), (tF), H', ⟨by have := HJ1.out; have := HK2.out; have := HK3.out; omega⟩, ⟨by repeat (first | (with_reducible exact HR412_0.out) | (with_reducible exact Kd.C_below HR412_0.out HB.out) | (with_reducible refine Kd.C_alloc ?_ _) | (with_reducible refine Kd.C_drewN ?_ _) | (with_reducible refine Kd.C_drew ?_) | exact HR412_0.out)⟩, ⟨tIp⟩, ⟨tK⟩, ⟨tB⟩⟩
               ·replace c24 := Bool.eq_false_iff.mpr c24; subst c24; (have H1 : (some (false, s0_0, s0_1)) = some (r1, r2, r3) := by rw [if_neg (show ¬ (false = true) by decide)] at H; exact H); clear H; have H := H1; clear H1; simp only [Option.some.injEq, Prod.mk.injEq] at H; obtain ⟨rfl, rfl, rfl⟩ := H; obtain ⟨ASz26_2, cSz26_2, ASz26_3, cSz26_3, hcz26_0, hcz26_1, hcz26_2, hcz26_3, HSz26_2, HSz26_3⟩ := HI0.out; have p414 : 0 ≤ (x4_2 : Int) := oA; have q414 : x4_2 < (s0_3.length : Int) := oA; obtain ⟨ad414, A414_0, c414_0, e414, hx414_0, hl414_0, hi414_0⟩ := at_L5 HSz26_3 x4_2 p414 q414; cases e414; replace hx414_0 := pw_cell_below HB.out hx414_0; have HR414_0 := am hi414_0; have HC414_0 := am hl414_0; clear hi414_0 hl414_0; replace p414 := eq_true p414; replace q414 := eq_true q414; have p415 : 0 ≤ (x4_2 : Int) := oA; have q415 : x4_2 < (s0_3.length : Int) := oA; obtain ⟨ad415, A415_0, c415_0, e415, hx415_0, hl415_0, hi415_0⟩ := at_L5 HSz26_3 x4_2 p415 q415; obtain rfl : ad414 = ad415 := (by injection e415); replace hx415_0 := pw_cell_below HB.out hx415_0
                try (have hxe_ := hx414_0.symm.trans hx415_0; injection hxe_ with hxe_; injection hxe_ with hA_ hl_ hc_; subst hA_; subst hc_)
                have HR415_0 := am hi415_0; have HC415_0 := am hl415_0; clear hi415_0 hl415_0; replace p415 := eq_true p415; replace q415 := eq_true q415; have p416 : 0 ≤ (x5_3 : Int) := oA; have q416 : x5_3 < ((rd_L5 s0_3 x4_2).length : Int) := oA; obtain ⟨ad416, e416, hx416_0⟩ := Kd.at_int HR415_0.out x5_3 p416 q416; cases e416; replace hx416_0 := (by first | exact keep_cell HK.out hx416_0 (by first | (rw [add_block]; exact hf415_0 _ rfl (by omega)) | exact hf415_0 _ rfl (by omega) | exact hf415_0 ad416 rfl (by omega)) | exact pw_cell_below HB.out hx416_0); replace p416 := eq_true p416; replace q416 := eq_true q416
                go_wp2_with (first | (go_at_call 56; (with_reducible refine (spec_l00In.calls (rd (rd_L5 s0_3 x4_2) x5_3) 0 (wrap64 ((s0_2.length : Int) - 1)) false _ A23.out).mono ?_); rintro e w' ⟨rfl, ⟨nd, rfl⟩⟩; (try first | exact ⟨rfl, _, World.drewN_drewN _ _ _⟩ | exact ⟨rfl, _, Eq.trans (World.drewN_drewN _ _ _) (congrArg (World.drewN _) (Nat.add_assoc _ _ _))⟩)) | go_quiet (first | (go_at_call 56; (with_reducible refine (spec_l00In.calls (rd (rd_L5 s0_3 x4_2) x5_3) 0 (wrap64 ((s0_2.length : Int) - 1)) false _ A23.out).mono ?_); rintro e w' ⟨rfl, ⟨nd, rfl⟩⟩; (try first | exact ⟨rfl, _, World.drewN_drewN _ _ _⟩ | exact ⟨rfl, _, Eq.trans (World.drewN_drewN _ _ _) (congrArg (World.drewN _) (Nat.add_assoc _ _ _))⟩))))
                go_ret; exact ⟨tE, tIp, tB, tK⟩
              ·rw [if_neg c22] at H; exact absurd H (by simp)
             ·rw [if_neg c21] at H; have c21b0 := decide_eq_false c21; clear c21; have H' := am H; clear H; obtain ⟨ASz27_2, cSz27_2, ASz27_3, cSz27_3, hcz27_0, hcz27_1, hcz27_2, hcz27_3, HSz27_2, HSz27_3⟩ := HI0.out; have p414 : 0 ≤ (x4_2 : Int) := oA; have q414 : x4_2 < (s0_3.length : Int) := oA; obtain ⟨ad414, A414_0, c414_0, e414, hx414_0, hl414_0, hi414_0⟩ := at_L5 HSz27_3 x4_2 p414 q414; cases e414; replace hx414_0 := pw_cell_below HB.out hx414_0; have HR414_0 := am hi414_0; have HC414_0 := am hl414_0; clear hi414_0 hl414_0; replace p414 := eq_true p414; replace q414 := eq_true q414; go_wp2
              repeat (go_quiet (fail); try go_wp2)
              go_roundg k3
              case measure => have := HJ1.out; have := HK2.out; have := HK3.out; omega
              case rel => exact ⟨(wrap64 (x4_2 + 1)), (tF), H', ⟨by have := HJ1.out; have := HK2.out; have := HK3.out; omega⟩, ⟨tIp⟩, ⟨tK⟩, ⟨tB⟩⟩
            ·rw [if_neg c20] at H; exact absurd H (by simp)
           ·rw [if_neg c19] at H; exact absurd H (by simp)
        ·rw [if_neg c17] at H; have c17b0 : (((rd_L5 s0_3 x4_2).length : Int) == t413) = false := beq_eq_false_iff_ne.mpr c17; have c17b1 : (((rd_L5 s0_3 x4_2).length : Int) != t413) = true := bne_iff_ne.mpr c17; simp only [Option.some.injEq, Prod.mk.injEq] at H; obtain ⟨rfl, rfl, rfl⟩ := H; obtain ⟨ASz28_2, cSz28_2, ASz28_3, cSz28_3, hcz28_0, hcz28_1, hcz28_2, hcz28_3, HSz28_2, HSz28_3⟩ := HI0.out; have p412 : 0 ≤ (x4_2 : Int) := oA; have q412 : x4_2 < (s0_3.length : Int) := oA; obtain ⟨ad412, A412_0, c412_0, e412, hx412_0, hl412_0, hi412_0⟩ := at_L5 HSz28_3 x4_2 p412 q412; cases e412; replace hx412_0 := pw_cell_below HB.out hx412_0; have HR412_0 := am hi412_0; have HC412_0 := am hl412_0; clear hi412_0 hl412_0; replace p412 := eq_true p412; replace q412 := eq_true q412
         go_wp2_with (first | (go_at_call 63; (with_reducible refine (spec_l01Wide.calls k2 s0_0 t413 _ A16.out).mono ?_); rintro e w' ⟨rfl, ⟨nd, rfl⟩⟩; (try first | exact ⟨rfl, _, World.drewN_drewN _ _ _⟩ | exact ⟨rfl, _, Eq.trans (World.drewN_drewN _ _ _) (congrArg (World.drewN _) (Nat.add_assoc _ _ _))⟩)) | go_quiet (first | (go_at_call 63; (with_reducible refine (spec_l01Wide.calls k2 s0_0 t413 _ A16.out).mono ?_); rintro e w' ⟨rfl, ⟨nd, rfl⟩⟩; (try first | exact ⟨rfl, _, World.drewN_drewN _ _ _⟩ | exact ⟨rfl, _, Eq.trans (World.drewN_drewN _ _ _) (congrArg (World.drewN _) (Nat.add_assoc _ _ _))⟩))))
         go_ret; exact ⟨tE, tIp, tB, tK⟩
       ·rw [if_neg c15] at H; exact absurd H (by simp)
      ·rw [if_neg c14] at H; have c14b0 := decide_eq_false c14; clear c14; simp only [Option.some.injEq, Prod.mk.injEq] at H; obtain ⟨rfl, rfl, rfl⟩ := H; obtain ⟨ASz29_2, cSz29_2, ASz29_3, cSz29_3, hcz29_0, hcz29_1, hcz29_2, hcz29_3, HSz29_2, HSz29_3⟩ := HI0.out; go_wp2
       repeat (go_quiet (fail); try go_wp2)
       go_ret; exact ⟨tE, tIp, tB, tK⟩
end Go.Proofs.YtelicdmaohllgaaDoor.X
namespace Go.Proofs.YtelicdmaohllgaaDoor.X
set_option maxHeartbeats 16000000
set_option maxRecDepth 100000
open Go.RowKit Go.Proofs.YtelicdmaohllgaaDoorW.PrintWords Go.Proofs.YtelicdmaohllgaaDoorW.PrintLast Go.Proofs.YtelicdmaohllgaaDoorW.PrintMore
set_option linter.unusedVariables false
set_option linter.unusedSimpArgs false
/-- The state behind a column. -/
def stp (ns : List (List Int)) (q c : Int) : Int := rd (ns.getD q.toNat []) c
/-- The language of a state, over columns 0 .. W - 1. -/
def lng (W : Nat) (ac : List Bool) (ns : List (List Int)) : Int → List Int → Bool
 | q, [] => rdOf false ac q
 | q, c :: w => decide (0 ≤ c) && (decide (c < (W : Int)) && lng W ac ns (stp ns q c) w)
/-- A table of n states whose rows are right. -/
def TableOK (W : Nat) (n : Nat) (ns : List (List Int)) : Prop := ns.length = n ∧ ∀ row ∈ ns, row.length = W ∧ ∀ x ∈ row, 0 ≤ x ∧ x < (n : Int)
theorem TableOK.row {W n : Nat} {ns : List (List Int)} (h : TableOK W n ns) {q : Int} (h0 : 0 ≤ q) (h1 : q < (n : Int)) : ns.getD q.toNat [] ∈ ns := by
 (have hl : q.toNat < ns.length := by rw [h.1]; omega); rw [List.getD_eq_getElem?_getD, List.getElem?_eq_getElem hl]; exact List.getElem_mem hl
theorem TableOK.stpd {W n : Nat} {ns : List (List Int)} (h : TableOK W n ns) {q c : Int} (h0 : 0 ≤ q) (h1 : q < (n : Int)) (c0 : 0 ≤ c) (c1 : c < (W : Int)) : 0 ≤ stp ns q c ∧ stp ns q c < (n : Int) := by
 obtain ⟨hl, hx⟩ := h.2 _ (h.row h0 h1); (have hc : c.toNat < (ns.getD q.toNat []).length := by rw [hl]; omega); unfold stp rd; rw [List.getD_eq_getElem?_getD, List.getElem?_eq_getElem hc]; exact hx _ (List.getElem_mem hc)
section
variable {K K' : Type} [DecidableEq K] [DecidableEq K'] {φ : K → K'} {S : K → Prop}
omit [DecidableEq K] [DecidableEq K'] in
theorem mem_map_inj (hinj : ∀ a b, S a → S b → φ a = φ b → a = b) {l : List K} (hl : ∀ k ∈ l, S k) {t : K} (ht : S t) : φ t ∈ l.map φ ↔ t ∈ l := by
 constructor
 ·intro h; obtain ⟨a, ha, he⟩ := List.mem_map.1 h; exact hinj _ _ (hl a ha) ht he ▸ ha
 ·exact List.mem_map_of_mem
theorem idxOf_map_inj (hinj : ∀ a b, S a → S b → φ a = φ b → a = b) {l : List K} (hl : ∀ k ∈ l, S k) {t : K} (ht : S t) : (l.map φ).idxOf (φ t) = l.idxOf t := by
 induction l with
 | nil => rfl
 | cons a l ih =>
  rw [List.map_cons, List.idxOf_cons, List.idxOf_cons, ih (fun k hk => hl k (List.mem_cons_of_mem _ hk))]; by_cases e : a = t
  ·subst e; simp
  ·have e' : ¬ φ a = φ t := fun h => e (hinj _ _ (hl a (by simp)) ht h); rw [beq_eq_false_iff_ne.2 e, beq_eq_false_iff_ne.2 e']
theorem growRow_map (hinj : ∀ a b, S a → S b → φ a = φ b → a = b) {good : K → Bool} {good' : K' → Bool} {nx : Int → Option K} {nx' : Int → Option K'} {W : Nat}
  (hnx : ∀ c k, 0 ≤ c → c < (W : Int) → nx c = some k → S k ∧ nx' c = some (φ k) ∧ good' (φ k) = true) :
  ∀ (m : Nat) (c : Int) (l : List K) (row : List Int) (l1 : List K) (row1 : List Int), 0 ≤ c → c + m = (W : Int) → (∀ k ∈ l, S k) → growRow good nx m c l row = some (l1, row1) →
   growRow good' nx' m c (l.map φ) row = some (l1.map φ, row1) ∧ ∀ k ∈ l1, S k := by
 intro m
 induction m with
 | zero =>
  intro c l row l1 row1 _ _ hl h
  simp only [growRow, Option.some.injEq, Prod.mk.injEq] at h ⊢
  obtain ⟨rfl, rfl⟩ := h; exact ⟨⟨rfl, rfl⟩, hl⟩
 | succ m ih =>
  intro c l row l1 row1 h0 h1 hl h; simp only [growRow] at h; obtain ⟨t, ht, h⟩ := oB h
  split at h
  ·obtain ⟨hS, hn, hg⟩ := hnx c t h0 (by omega) ht; simp only [growRow, hn, Option.bind_some, hg, if_true]; rw [idxOf_map_inj hinj hl hS, List.length_map]; by_cases e : t ∈ l
   ·rw [if_pos e] at h; rw [if_pos ((mem_map_inj hinj hl hS).2 e)]; exact ih _ _ _ _ _ (by omega) (by omega) hl h
   ·rw [if_neg e] at h; rw [if_neg (fun h => e ((mem_map_inj hinj hl hS).1 h))]
    split at h
    ·next hlt =>
     rw [if_pos hlt]; have := ih _ (l ++ [t]) _ _ _ (by omega) (by omega) (by intro k hk; rcases List.mem_append.1 hk with hk | hk; exact hl k hk; simp at hk; exact hk ▸ hS) h
     simpa using this
    ·cases h
  ·cases h
theorem growL_map (hinj : ∀ a b, S a → S b → φ a = φ b → a = b) {good : K → Bool} {good' : K' → Bool} {acc : K → Option Bool} {acc' : K' → Option Bool} {next : K → Int → Option K} {next' : K' → Int → Option K'} {W : Nat}
  (hnx : ∀ k c t, S k → 0 ≤ c → c < (W : Int) → next k c = some t → S t ∧ next' (φ k) c = some (φ t) ∧ good' (φ t) = true) (hac : ∀ k b, S k → acc k = some b → acc' (φ k) = some b) :
  ∀ (f : Nat) (l : List K) (bs : List Bool) (rs : List (List Int)) (r : List Bool × List (List Int)), (∀ k ∈ l, S k) → growL good acc next W f l bs rs = some r → growL good' acc' next' W f (l.map φ) bs rs = some r := by
 intro f
 induction f with
 | zero => intro l bs rs r _ h; simp [growL] at h
 | succ f ih =>
  intro l bs rs r hl h
  simp only [growL] at h ⊢
  rw [List.getElem?_map]
  cases e : l[bs.length]? with
  | none => rw [e] at h; simpa using h
  | some k =>
   rw [e] at h
   simp only [Option.map_some] at h ⊢
   have hk : S k := hl k (List.mem_of_getElem? e); obtain ⟨p, hp, h⟩ := oB h; obtain ⟨b, hb, h⟩ := oB h; obtain ⟨hr, hS⟩ := growRow_map (W := W) hinj (fun c t c0 c1 ht => hnx k c t hk c0 c1 ht) W 0 l [] p.1 p.2 (by omega) (by omega) hl hp; rw [hr]; simp only [Option.bind_some, hac k b hk hb]; exact ih _ _ _ _ hS h
theorem growL_more {good : K → Bool} {acc : K → Option Bool} {next : K → Int → Option K} {W : Nat} : ∀ (f d : Nat) (l : List K) (bs : List Bool) (rs : List (List Int)) (r : List Bool × List (List Int)), growL good acc next W f l bs rs = some r → growL good acc next W (f + d) l bs rs = some r := by
 intro f
 induction f with
 | zero => intro d l bs rs r h; simp [growL] at h
 | succ f ih =>
  intro d l bs rs r h; rw [Nat.add_right_comm]
  simp only [growL] at h ⊢
  cases e : l[bs.length]? with
  | none => rw [e] at h; exact h
  | some k =>
   rw [e] at h
   simp only at h ⊢
   obtain ⟨p, hp, h⟩ := oB h; obtain ⟨b, hb, h⟩ := oB h; rw [hp]; simp only [Option.bind_some, hb]; exact ih d _ _ _ _ h
theorem growL_same {good : K → Bool} {acc : K → Option Bool} {next : K → Int → Option K} {W f g : Nat} {l : List K} {bs : List Bool} {rs : List (List Int)} {r s : List Bool × List (List Int)} (h : growL good acc next W f l bs rs = some r) (h2 : growL good acc next W g l bs rs = some s) : r = s := by
 have a := growL_more f g _ _ _ _ h; have b := growL_more g f _ _ _ _ h2; rw [Nat.add_comm] at b; exact Option.some.inj (a.symm.trans b)
theorem nodup_len {K : Type} [DecidableEq K] : ∀ (a b : List K), a.Nodup → (∀ k ∈ a, k ∈ b) → a.length ≤ b.length := by
 intro a
 induction a with
 | nil => intro b _ _; simp
 | cons x a ih =>
  intro b hn hs; have hx : x ∈ b := hs x (by simp); have hn' := List.nodup_cons.1 hn; have := ih (b.erase x) hn'.2 (fun k hk => (List.mem_erase_of_ne (fun e : k = x => hn'.1 (by rw [← e]; exact hk))).2 (hs k (by simp [hk]))); rw [List.length_erase_of_mem hx] at this; have := List.length_pos_of_mem hx; simp only [List.length_cons]; omega
theorem growRow_some {U : List K} (hU : U.length ≤ 1900000) {good : K → Bool} {nx : Int → Option K} {W : Nat} (hnx : ∀ c, 0 ≤ c → c < (W : Int) → ∃ t, nx c = some t ∧ good t = true ∧ t ∈ U) :
  ∀ (m : Nat) (c : Int) (l : List K) (row : List Int), 0 ≤ c → c + m = (W : Int) → l.Nodup → (∀ k ∈ l, k ∈ U) → ∃ l1 row1, growRow good nx m c l row = some (l ++ l1, row ++ row1) ∧ (l ++ l1).Nodup ∧ (∀ k ∈ l ++ l1, k ∈ U) ∧ row1.length = m ∧ ∀ x ∈ row1, 0 ≤ x ∧ x < ((l ++ l1).length : Int) := by
 intro m
 induction m with
 | zero => intro c l row _ _ hn hl; exact ⟨[], [], by simp [growRow], by simpa using hn, by simpa using hl, rfl, by simp⟩
 | succ m ih =>
  intro c l row h0 h1 hn hl; obtain ⟨t, ht, hg, hu⟩ := hnx c h0 (by omega); simp only [growRow, ht, Option.bind_some, hg, if_true]; by_cases e : t ∈ l
  ·rw [if_pos e]; obtain ⟨l1, row1, h, hn1, hl1, hr, hx⟩ := ih (c + 1) l (row ++ [(l.idxOf t : Int)]) (by omega) (by omega) hn hl; refine ⟨l1, (l.idxOf t : Int) :: row1, by simpa using h, hn1, hl1, by simp [hr], ?_⟩; intro x hx'
   rcases List.mem_cons.1 hx' with rfl | hx'
   ·have := List.idxOf_lt_length_iff.2 e; simp only [List.length_append]; omega
   ·exact hx x hx'
  ·rw [if_neg e]; have hn' : (l ++ [t]).Nodup := List.nodup_append.2 ⟨hn, by simp, fun a ha b hb => by simp at hb; subst hb; exact fun he => e (he ▸ ha)⟩
   have hl' : ∀ k ∈ l ++ [t], k ∈ U := by
    intro k hk
    rcases List.mem_append.1 hk with hk | hk
    ·exact hl k hk
    ·simp at hk; exact hk ▸ hu
   have := nodup_len _ _ hn' hl'; rw [if_pos (by simp at this; omega)]; obtain ⟨l1, row1, h, hn1, hl1, hr, hx⟩ := ih (c + 1) (l ++ [t]) (row ++ [(l.length : Int)]) (by omega) (by omega) hn' hl'; refine ⟨t :: l1, (l.length : Int) :: row1, by simpa using h, by simpa using hn1, by simpa using hl1, by simp [hr], ?_⟩; intro x hx'
   rcases List.mem_cons.1 hx' with rfl | hx'
   ·simp only [List.length_append, List.length_cons]; omega
   ·simpa using hx x hx'
theorem growL_some {U : List K} (hU : U.length ≤ 1900000) {good : K → Bool} {acc : K → Option Bool} {next : K → Int → Option K} {W : Nat} (hnx : ∀ k c, k ∈ U → 0 ≤ c → c < (W : Int) → ∃ t, next k c = some t ∧ good t = true ∧ t ∈ U) (hac : ∀ k ∈ U, ∃ b, acc k = some b) :
  ∀ (f : Nat) (l : List K) (bs : List Bool) (rs : List (List Int)), l.Nodup → (∀ k ∈ l, k ∈ U) → bs.length ≤ l.length → U.length < f + bs.length → ∃ r, growL good acc next W f l bs rs = some r := by
 intro f
 induction f with
 | zero =>
  intro l bs rs hn hl hb hf; have := nodup_len _ _ hn hl; omega
 | succ f ih =>
  intro l bs rs hn hl hb hf; simp only [growL]
  cases e : l[bs.length]? with
  | none => exact ⟨_, rfl⟩
  | some k =>
   simp only; have hk : k ∈ U := hl k (List.mem_of_getElem? e); obtain ⟨l1, row1, h, hn1, hl1, _⟩ := growRow_some hU (fun c c0 c1 => hnx k c hk c0 c1) W 0 l [] (by omega) (by omega) hn hl; obtain ⟨b, hb'⟩ := hac k hk; rw [h]; simp only [Option.bind_some, hb']; have : bs.length < l.length := (List.getElem?_eq_some_iff.1 e).1; exact ih _ _ _ hn1 hl1 (by simp; omega) (by simp; omega)
end
section
variable (W n : Nat) (ac : List Bool) (ns : List (List Int))
/-- One round: g1 parts what g parts, or what a column leads to parts by g; its values are 0 .. m - 1, each met. -/
structure Finer (g g1 : Int → Int) (m : Nat) : Prop where
 iff : ∀ i j, 0 ≤ i → i < (n : Int) → 0 ≤ j → j < (n : Int) → (g1 i = g1 j ↔ (g i = g j ∧ ∀ c, 0 ≤ c → c < (W : Int) → g (stp ns i c) = g (stp ns j c)))
 lo : ∀ i, 0 ≤ i → i < (n : Int) → 0 ≤ g1 i ∧ g1 i < (m : Int)
 met : ∀ k : Nat, k < m → ∃ i, 0 ≤ i ∧ i < (n : Int) ∧ g1 i = (k : Int)
/-- What holds of the classes all the time. -/
structure ClassOK (g : Int → Int) : Prop where
 coarse : ∀ i j, 0 ≤ i → i < (n : Int) → 0 ≤ j → j < (n : Int) → lng W ac ns i = lng W ac ns j → g i = g j
 acc : ∀ i j, 0 ≤ i → i < (n : Int) → 0 ≤ j → j < (n : Int) → g i = g j → rdOf false ac i = rdOf false ac j
/-- The classes are those of the languages. -/
def ClassEq (g : Int → Int) : Prop := ∀ i j, 0 ≤ i → i < (n : Int) → 0 ≤ j → j < (n : Int) → (g i = g j ↔ lng W ac ns i = lng W ac ns j)
variable {W n ac ns} {g g1 : Int → Int} {m : Nat}
theorem lng_stp {i j : Int} (h : lng W ac ns i = lng W ac ns j) {c : Int} (c0 : 0 ≤ c) (c1 : c < (W : Int)) : lng W ac ns (stp ns i c) = lng W ac ns (stp ns j c) := by
 funext w
 have := congrFun h (c :: w)
 simpa [lng, c0, c1] using this
theorem ClassOK.next (hT : TableOK W n ns) (h : ClassOK W n ac ns g) (hf : Finer W n ns g g1 m) : ClassOK W n ac ns g1 := by
 refine ⟨fun i j i0 i1 j0 j1 e => (hf.iff i j i0 i1 j0 j1).2 ⟨h.coarse i j i0 i1 j0 j1 e, fun c c0 c1 => ?_⟩, fun i j i0 i1 j0 j1 e => h.acc i j i0 i1 j0 j1 ((hf.iff i j i0 i1 j0 j1).1 e).1⟩; have a := hT.stpd i0 i1 c0 c1; have b := hT.stpd j0 j1 c0 c1; exact h.coarse _ _ a.1 a.2 b.1 b.2 (lng_stp e c0 c1)
/-- Numbers from 0 on that are all met lie in a list that is as long at least. -/
theorem covers_len : ∀ (m : Nat) (l : List Int), (∀ k : Nat, k < m → (k : Int) ∈ l) → m ≤ l.length := by
 intro m l h
 have := nodup_len ((List.range m).map (fun k : Nat => (k : Int))) l (List.pairwise_map.2 (List.nodup_range.imp (fun {a b} e h => e (by have h : (a : Int) = (b : Int) := h; omega)))) (by
  intro k hk; obtain ⟨a, ha, rfl⟩ := List.mem_map.1 hk
  exact h a (List.mem_range.1 ha))
 simpa using this
theorem Finer.reps (hf : Finer W n ns g g1 m) : ∃ reps : List Int, reps.length = m ∧ ∀ k : Nat, k < m → 0 ≤ rd reps k ∧ rd reps k < (n : Int) ∧ g1 (rd reps k) = (k : Int) := by
 have : ∀ d : Nat, d ≤ m → ∃ reps : List Int, reps.length = d ∧ ∀ k : Nat, k < d → 0 ≤ rd reps k ∧ rd reps k < (n : Int) ∧ g1 (rd reps k) = (k : Int) := by
  intro d
  induction d with
  | zero => exact fun _ => ⟨[], rfl, fun k hk => by omega⟩
  | succ d ih =>
   intro hd; obtain ⟨reps, hl, hr⟩ := ih (by omega); obtain ⟨i, i0, i1, hi⟩ := hf.met d (by omega); refine ⟨reps ++ [i], by simp [hl], fun k hk => ?_⟩; by_cases e : k < d
   ·(have : rd (reps ++ [i]) k = rd reps k := by simp [rd, List.getD_eq_getElem?_getD, List.getElem?_append_left (show k < reps.length by omega)]); rw [this]; exact hr k e
   ·(obtain rfl : k = d := by omega); (have : rd (reps ++ [i]) k = i := by simp [rd, List.getD_eq_getElem?_getD, ← hl]); rw [this]; exact ⟨i0, i1, hi⟩
 exact this m (Nat.le_refl _)
theorem rd_mem {l : List Int} {k : Nat} (h : k < l.length) : rd l k ∈ l := by
 simp only [rd, Int.toNat_natCast, List.getD_eq_getElem?_getD, List.getElem?_eq_getElem h, Option.getD_some]; exact List.getElem_mem h
/-- Finer classes are as many at least. -/
theorem Finer.le (hf : Finer W n ns g g1 m) {m0 : Nat} (hm : ∀ k : Nat, k < m0 → ∃ i, 0 ≤ i ∧ i < (n : Int) ∧ g i = (k : Int)) : m0 ≤ m := by
 obtain ⟨reps, hl, hr⟩ := hf.reps
 have := covers_len m0 (reps.map g) (by
  intro k hk; obtain ⟨i, i0, i1, hi⟩ := hm k hk; obtain ⟨a0, a1⟩ := hf.lo i i0 i1; (have hk1 : (g1 i).toNat < m := by omega); obtain ⟨b0, b1, b2⟩ := hr _ hk1; (have e : g1 (rd reps (g1 i).toNat) = g1 i := by rw [b2]; omega); rw [← hi, ← ((hf.iff _ _ b0 b1 i0 i1).1 e).1]
  exact List.mem_map_of_mem (rd_mem (by omega)))
 simpa [hl] using this
/-- As many classes as before: the same ones. -/
theorem Finer.same (hf : Finer W n ns g g1 m) (hm : ∀ k : Nat, k < m → ∃ i, 0 ≤ i ∧ i < (n : Int) ∧ g i = (k : Int)) {i j : Int} (i0 : 0 ≤ i) (i1 : i < (n : Int)) (j0 : 0 ≤ j) (j1 : j < (n : Int)) (h : g i = g j) : g1 i = g1 j := by
 obtain ⟨reps, hl, hr⟩ := hf.reps; refine Classical.byContradiction fun hne => ?_; obtain ⟨a0, a1⟩ := hf.lo i i0 i1; obtain ⟨b0, b1⟩ := hf.lo j j0 j1
 have key : ∀ x, 0 ≤ x → x < (n : Int) → g (rd reps (g1 x).toNat) = g x := by
  intro x x0 x1; obtain ⟨c0, c1⟩ := hf.lo x x0 x1; obtain ⟨d0, d1, d2⟩ := hr (g1 x).toNat (by omega); exact ((hf.iff _ _ d0 d1 x0 x1).1 (by rw [d2]; omega)).1
 have := covers_len m ((reps.eraseIdx (g1 j).toNat).map g) (by
  intro k hk; obtain ⟨x, x0, x1, hx⟩ := hm k hk; obtain ⟨c0, c1⟩ := hf.lo x x0 x1
  -- the place of x, or of i where x stands at j's
  have pos : ∃ p : Nat, p < m ∧ p ≠ (g1 j).toNat ∧ g (rd reps p) = (k : Int) := by
   by_cases e : g1 x = g1 j
   ·refine ⟨(g1 i).toNat, by omega, by omega, ?_⟩; rw [key i i0 i1, h, ← ((hf.iff x j x0 x1 j0 j1).1 e).1, hx]
   ·exact ⟨(g1 x).toNat, by omega, by omega, by rw [key x x0 x1, hx]⟩
  obtain ⟨p, hp, hpj, hg⟩ := pos; rw [← hg]; refine List.mem_map_of_mem ?_; rw [List.mem_eraseIdx_iff_getElem?]
  exact ⟨p, hpj, by simp [rd, List.getD_eq_getElem?_getD, List.getElem?_eq_getElem (show p < reps.length by omega)]⟩)
 rw [List.length_map, List.length_eraseIdx_of_lt (by omega)] at this; omega
theorem ClassOK.eq (hT : TableOK W n ns) (h : ClassOK W n ac ns g) (hf : Finer W n ns g g1 m) (hm : ∀ k : Nat, k < m → ∃ i, 0 ≤ i ∧ i < (n : Int) ∧ g i = (k : Int)) : ClassEq W n ac ns g1 := by
 have h1 := h.next hT hf; intro i j i0 i1 j0 j1; refine ⟨fun e => ?_, h1.coarse i j i0 i1 j0 j1⟩
 funext w
 induction w generalizing i j with
 | nil => simpa [lng] using h1.acc i j i0 i1 j0 j1 e
 | cons c w ih =>
  simp only [lng]; by_cases c0 : 0 ≤ c
  ·by_cases c1 : c < (W : Int)
   ·have a := hT.stpd i0 i1 c0 c1; have b := hT.stpd j0 j1 c0 c1; rw [ih _ _ a.1 a.2 b.1 b.2 (hf.same hm a.1 a.2 b.1 b.2 (((hf.iff i j i0 i1 j0 j1).1 e).2 c c0 c1))]
   ·simp [c1]
  ·simp [c0]
end
theorem decDigits_no44 : ∀ (u : Nat), ∀ c ∈ Lib.decDigits u, c ≠ 44 ∧ c ≠ 45 := by
 intro u
 induction u using Nat.strongRecOn with
 | _ u ih =>
  intro c hc; (have key : ∀ d < 10, UInt8.ofNat (48 + d) ≠ 44 ∧ UInt8.ofNat (48 + d) ≠ 45 := by decide); rw [Lib.decDigits] at hc
  split at hc
  ·next h =>
   obtain rfl := List.mem_singleton.1 hc; exact key u h
  ·next h =>
   rcases List.mem_append.1 hc with hc | hc
   ·exact ih (u / 10) (by omega) c hc
   ·obtain rfl := List.mem_singleton.1 hc; exact key (u % 10) (by omega)
theorem digit_inj {a b : Nat} (ha : a < 10) (hb : b < 10) (h : UInt8.ofNat (48 + a) = UInt8.ofNat (48 + b)) : a = b := by
 have := congrArg UInt8.toNat h; simp at this; omega
theorem decDigits_ne (u : Nat) : Lib.decDigits u ≠ [] := by
 rw [Lib.decDigits]
 split <;> simp
theorem decDigits_inj : ∀ (u v : Nat), Lib.decDigits u = Lib.decDigits v → u = v := by
 intro u
 induction u using Nat.strongRecOn with
 | _ u ih =>
  intro v h; rw [Lib.decDigits, Lib.decDigits.eq_def v] at h
  split at h
  ·next hu =>
   split at h
   ·next hv => exact digit_inj hu hv (by simpa using h)
   ·next hv =>
    have := List.append_inj_left' (s₁ := []) h (by simp); exact absurd this.symm (decDigits_ne _)
  ·next hu =>
   split at h
   ·next hv =>
    have := List.append_inj_left' (s₂ := []) h (by simp); exact absurd this (decDigits_ne _)
   ·next hv =>
    have h1 := List.append_inj_left' h (by simp); have h2 := List.append_inj_right' h (by simp); have := ih (u / 10) (by omega) _ h1; have := digit_inj (a := u % 10) (b := v % 10) (by omega) (by omega) (by simpa using h2); omega
theorem itoa_no44 (n : Int) : ∀ c ∈ Lib.itoa n, c ≠ 44 := by
 intro c hc; unfold Lib.itoa at hc
 split at hc
 ·rcases List.mem_cons.1 hc with rfl | hc
  ·decide
  ·exact (decDigits_no44 _ c hc).1
 ·exact (decDigits_no44 _ c hc).1
theorem itoa_inj (a b : Int) (h : Lib.itoa a = Lib.itoa b) : a = b := by
 unfold Lib.itoa at h
 split at h
 ·next ha =>
  split at h
  ·next hb =>
   injection h with _ h; have := decDigits_inj _ _ h; omega
  ·next hb => exact absurd rfl (decDigits_no44 _ 45 (by rw [← h]; simp)).2
 ·next ha =>
  split at h
  ·next hb => exact absurd rfl (decDigits_no44 _ 45 (by rw [h]; simp)).2
  ·next hb =>
   have := decDigits_inj _ _ h; omega
theorem cut44 : ∀ (a b r s : List UInt8), (∀ c ∈ a, c ≠ 44) → (∀ c ∈ b, c ≠ 44) → (r = [] ∨ ∃ t, r = 44 :: t) → (s = [] ∨ ∃ t, s = 44 :: t) → a ++ r = b ++ s → a = b ∧ r = s := by
 intro a
 induction a with
 | nil =>
  intro b r s _ hb hr hs h
  cases b with
  | nil => exact ⟨rfl, h⟩
  | cons y b =>
   rcases hr with rfl | ⟨t, rfl⟩
   ·simp at h
   ·simp only [List.nil_append, List.cons_append, List.cons.injEq] at h; exact absurd h.1.symm (hb y (by simp))
 | cons x a ih =>
  intro b r s ha hb hr hs h
  cases b with
  | nil =>
   rcases hs with rfl | ⟨t, rfl⟩
   ·simp at h
   ·simp only [List.nil_append, List.cons_append, List.cons.injEq] at h; exact absurd h.1 (ha x (by simp))
  | cons y b =>
   simp only [List.cons_append, List.cons.injEq] at h; obtain ⟨e, h2⟩ := ih b r s (fun c hc => ha c (by simp [hc])) (fun c hc => hb c (by simp [hc])) hr hs h.2; exact ⟨by rw [h.1, e], h2⟩
def tailKey (l : List Int) : List UInt8 := l.flatMap fun g => 44 :: Lib.itoa g
theorem tailKey_form (l : List Int) : tailKey l = [] ∨ ∃ t, tailKey l = 44 :: t := by
 cases l with
 | nil => exact .inl rfl
 | cons x l => exact .inr ⟨_, by simp [tailKey]; rfl⟩
theorem tailKey_inj : ∀ (k l : List Int), tailKey k = tailKey l → k = l := by
 intro k
 induction k with
 | nil =>
  intro l h
  cases l with
  | nil => rfl
  | cons y l => simp [tailKey] at h
 | cons x k ih =>
  intro l h
  cases l with
  | nil => simp [tailKey] at h
  | cons y l =>
   (have h' : Lib.itoa x ++ tailKey k = Lib.itoa y ++ tailKey l := by simpa [tailKey] using h); obtain ⟨e, h2⟩ := cut44 _ _ _ _ (itoa_no44 x) (itoa_no44 y) (tailKey_form k) (tailKey_form l) h'; rw [itoa_inj _ _ e, ih l h2]
theorem at1_in {α : Type} {d : α} {xs : List α} {i : Int} (h0 : 0 ≤ i) (h1 : i < (xs.length : Int)) : at1 d xs i = some (rdOf d xs i) := by
 unfold at1; rw [if_pos ⟨h0, h1⟩]
theorem keyL_eq (group : List Int) : ∀ (row : List Int) (key : List UInt8), (∀ q ∈ row, 0 ≤ q ∧ q < (group.length : Int)) → keyL group row key = some (key ++ tailKey (row.map (rd group))) := by
 intro row
 induction row with
 | nil => intro key _; simp [keyL, tailKey]
 | cons q r ih =>
  intro key h; have hq := h q (by simp); rw [keyL, at1_in hq.1 hq.2]; simp only [Option.bind_some]; rw [ih _ (fun q hq => h q (by simp [hq]))]; simp [tailKey, rdOf, rd]
section
variable {κ : Type} [DecidableEq κ]
def roundG : List κ → Nat → List κ → List Int → List κ × List Int
 | [], _, keys, next => (keys, next)
 | k :: ks, i, keys, next => if k ∈ keys then roundG ks (i + 1) keys (next.set i (keys.idxOf k : Int)) else roundG ks (i + 1) (keys ++ [k]) (next.set i (keys.length : Int))
theorem set_snoc {a b : List Int} {x y : Int} {i : Nat} (h : i = a.length) : (a ++ y :: b).set i x = a ++ x :: b := by
 subst h; simp
theorem roundG_eq : ∀ (ks : List κ) (i : Nat) (keys : List κ) (done rest : List Int), done.length = i → rest.length = ks.length → keys.Nodup →
  ∃ D, roundG ks i keys (done ++ rest) = (keys ++ D, done ++ ks.map fun k => ((keys ++ D).idxOf k : Int)) ∧ (keys ++ D).Nodup ∧ (∀ k ∈ ks, k ∈ keys ++ D) ∧ ∀ d ∈ D, d ∈ ks := by
 intro ks
 induction ks with
 | nil =>
  intro i keys done rest h1 h2 h3; (have : rest = [] := by cases rest; rfl; simp at h2); subst this; exact ⟨[], by simp [roundG], by simpa using h3, by simp, by simp⟩
 | cons k ks ih =>
  intro i keys done rest h1 h2 h3
  cases rest with
  | nil => simp at h2
  | cons y rest =>
   simp only [roundG]; rw [set_snoc h1.symm, set_snoc h1.symm]; by_cases e : k ∈ keys
   ·rw [if_pos e]; obtain ⟨D, hr, hn, hk, hd⟩ := ih (i + 1) keys (done ++ [(keys.idxOf k : Int)]) rest (by simp [h1]) (by simpa using h2) h3; refine ⟨D, ?_, hn, ?_, fun d hd' => by simp [hd d hd']⟩
    ·rw [show done ++ (keys.idxOf k : Int) :: rest = done ++ [(keys.idxOf k : Int)] ++ rest by simp, hr]; simp [List.idxOf_append, e]
    ·intro x hx
     rcases List.mem_cons.1 hx with rfl | hx
     ·simp [e]
     ·exact hk x hx
   ·rw [if_neg e]; have hn' : (keys ++ [k]).Nodup := List.nodup_append.2 ⟨h3, by simp, fun a ha b hb => by simp at hb; subst hb; exact fun he => e (he ▸ ha)⟩; obtain ⟨D, hr, hn, hk, hd⟩ := ih (i + 1) (keys ++ [k]) (done ++ [(keys.length : Int)]) rest (by simp [h1]) (by simpa using h2) hn'; refine ⟨k :: D, ?_, by simpa using hn, ?_, ?_⟩
    ·rw [show done ++ (keys.length : Int) :: rest = done ++ [(keys.length : Int)] ++ rest by simp, hr]; simp [List.idxOf_append, e]
    ·intro x hx
     rcases List.mem_cons.1 hx with rfl | hx
     ·simp
     ·simpa using hk x hx
    ·intro d hd'
     rcases List.mem_cons.1 hd' with rfl | hd'
     ·simp
     ·simp [hd d hd']
/-- A round over keys that tell what 'Finer' asks. -/
theorem round_finer {W n : Nat} {ns : List (List Int)} {g : Int → Int} {ks : List κ} (hl : ks.length = n)
  (hk : ∀ i j : Nat, i < n → j < n → (ks[i]? = ks[j]? ↔ (g i = g j ∧ ∀ c, 0 ≤ c → c < (W : Int) → g (stp ns i c) = g (stp ns j c)))) :
  ∃ D l, roundG ks 0 [] (List.replicate n 0) = (D, l) ∧ l.length = n ∧ D.length ≤ n ∧ Finer W n ns g (rd l) D.length := by
 obtain ⟨D, hr, hn, hm, hd⟩ := roundG_eq ks 0 [] [] (List.replicate n 0) rfl (by simp [hl]) (by simp); simp only [List.nil_append] at hr hn hm hd; refine ⟨D, _, hr, by simp [hl], ?_, ?_⟩
 ·have := nodup_len D ks hn hd; omega
 have hrd : ∀ i : Nat, i < n → ∃ k, ks[i]? = some k ∧ k ∈ D ∧ rd (ks.map fun k => (D.idxOf k : Int)) i = (D.idxOf k : Int) := by
  intro i hi; (have hi' : i < ks.length := by omega); refine ⟨ks[i], List.getElem?_eq_getElem hi', hm _ (List.getElem_mem hi'), ?_⟩; simp [rd, List.getD_eq_getElem?_getD, List.getElem?_eq_getElem hi']
 have cast : ∀ i : Int, 0 ≤ i → i < (n : Int) → ∃ m : Nat, i = (m : Int) ∧ m < n := fun i h0 h1 => ⟨i.toNat, by omega, by omega⟩; refine ⟨?_, ?_, ?_⟩
 ·intro i j i0 i1 j0 j1; obtain ⟨i, rfl, hi⟩ := cast i i0 i1; obtain ⟨j, rfl, hj⟩ := cast j j0 j1; obtain ⟨a, ha, ham, har⟩ := hrd i hi; obtain ⟨b, hb, hbm, hbr⟩ := hrd j hj; rw [har, hbr, ← hk i j hi hj, ha, hb]; constructor
  ·intro h; (have h' : D.idxOf a = D.idxOf b := by omega); (have e1 : D[D.idxOf a]? = some a := by rw [List.getElem?_eq_getElem (List.idxOf_lt_length_iff.2 ham), List.getElem_idxOf]); (have e2 : D[D.idxOf b]? = some b := by rw [List.getElem?_eq_getElem (List.idxOf_lt_length_iff.2 hbm), List.getElem_idxOf]); rw [← Option.some.inj (e1.symm.trans ((congrArg (fun k => D[k]?) h').trans e2))]
  ·intro h; injection h with h; rw [h]
 ·intro i i0 i1; obtain ⟨i, rfl, hi⟩ := cast i i0 i1; obtain ⟨a, ha, ham, har⟩ := hrd i hi; rw [har]; have := List.idxOf_lt_length_iff.2 ham; omega
 ·intro k hkD; have hmem : D[k] ∈ ks := hd _ (List.getElem_mem hkD); obtain ⟨i, hi, he⟩ := List.getElem_of_mem hmem; refine ⟨(i : Int), by omega, by omega, ?_⟩; obtain ⟨a, ha, ham, har⟩ := hrd i (by omega); rw [har]; rw [List.getElem?_eq_getElem hi, he] at ha; obtain rfl := Option.some.inj ha; rw [hn.idxOf_getElem]
end
def keysM (group : List Int) : List (List Int) → Nat → List (List UInt8)
 | [], _ => []
 | row :: rs, i => (Lib.itoa (rd group i) ++ tailKey (row.map (rd group))) :: keysM group rs (i + 1)
theorem keysM_len (group : List Int) : ∀ rs i, (keysM group rs i).length = rs.length := by
 intro rs
 induction rs with
 | nil => intro i; rfl
 | cons row rs ih => intro i; simp [keysM, ih]
theorem keysM_at (group : List Int) : ∀ (rs : List (List Int)) (i j : Nat), (keysM group rs i)[j]? = (rs[j]?).map fun row => Lib.itoa (rd group ((i + j : Nat) : Int)) ++ tailKey (row.map (rd group)) := by
 intro rs
 induction rs with
 | nil => intro i j; simp [keysM]
 | cons row rs ih =>
  intro i j
  cases j with
  | zero => simp [keysM]
  | succ j =>
   simp only [keysM, List.getElem?_cons_succ, ih]; rw [show i + 1 + j = i + (j + 1) by omega]
theorem roundM_eq (group : List Int) : ∀ (rs : List (List Int)) (i : Nat) (keys : List (List UInt8)) (next : List Int), i + rs.length ≤ group.length → (∀ row ∈ rs, ∀ q ∈ row, 0 ≤ q ∧ q < (group.length : Int)) → roundM group rs i keys next = some (roundG (keysM group rs i) i keys next) := by
 intro rs
 induction rs with
 | nil => intro i keys next _ _; rfl
 | cons row rs ih =>
  intro i keys next hl h; simp only [List.length_cons] at hl; rw [roundM, at1_in (xs := group) (i := (i : Int)) (by omega) (by omega)]; simp only [Option.bind_some]; rw [keyL_eq group row _ (h row (by simp))]; simp only [Option.bind_some, keysM, roundG]; have e : rdOf 0 group (i : Int) = rd group (i : Int) := rfl; rw [e]; unfold idxG
  split
  ·exact ih (i + 1) _ _ (by omega) (fun r hr => h r (by simp [hr]))
  ·exact ih (i + 1) _ _ (by omega) (fun r hr => h r (by simp [hr]))
theorem rd_map {l : List Int} {g : Int → Int} {c : Int} (c0 : 0 ≤ c) (c1 : c < (l.length : Int)) : rd (l.map g) c = g (rd l c) := by
 (have : c.toNat < l.length := by omega); simp [rd, List.getD_eq_getElem?_getD, List.getElem?_eq_getElem this]
theorem map_ext_rd {l k : List Int} {g : Int → Int} {W : Nat} (hl : l.length = W) (hk : k.length = W) : l.map g = k.map g ↔ ∀ c, 0 ≤ c → c < (W : Int) → g (rd l c) = g (rd k c) := by
 constructor
 ·intro h c c0 c1; rw [← rd_map (l := l) (g := g) c0 (by omega), ← rd_map (l := k) (g := g) c0 (by omega), h]
 ·intro h; refine List.ext_getElem (by simp [hl, hk]) fun i h1 h2 => ?_; simp only [List.length_map] at h1 h2; have := h (i : Int) (by omega) (by omega)
  simpa [rd, List.getD_eq_getElem?_getD, List.getElem?_eq_getElem h1, List.getElem?_eq_getElem h2] using this
theorem roundM_finer {W n : Nat} {ns : List (List Int)} (hT : TableOK W n ns) {group : List Int} (hg : group.length = n) :
  ∃ D l, roundM group ns 0 [] (List.replicate group.length 0) = some (D, l) ∧ l.length = n ∧ D.length ≤ n ∧ Finer W n ns (rd group) (rd l) D.length := by
 have hks : (keysM group ns 0).length = n := by rw [keysM_len, hT.1]
 obtain ⟨D, l, hr, hl, hD, hf⟩ := round_finer (W := W) (ns := ns) (g := rd group) hks (by
  intro i j hi hj; (have hi' : i < ns.length := by rw [hT.1]; exact hi); (have hj' : j < ns.length := by rw [hT.1]; exact hj); rw [keysM_at, keysM_at, List.getElem?_eq_getElem hi', List.getElem?_eq_getElem hj']; simp only [Option.map_some, Option.some.injEq, Nat.zero_add]; (have ei : ∀ c, stp ns (i : Int) c = rd ns[i] c := fun c => by simp [stp, List.getD_eq_getElem?_getD, List.getElem?_eq_getElem hi']); (have ej : ∀ c, stp ns (j : Int) c = rd ns[j] c := fun c => by simp [stp, List.getD_eq_getElem?_getD, List.getElem?_eq_getElem hj']); simp only [ei, ej]; rw [← map_ext_rd (hT.2 _ (List.getElem_mem hi')).1 (hT.2 _ (List.getElem_mem hj')).1]; constructor
  ·intro h; obtain ⟨a, b⟩ := cut44 _ _ _ _ (itoa_no44 _) (itoa_no44 _) (tailKey_form _) (tailKey_form _) h; exact ⟨itoa_inj _ _ a, tailKey_inj _ _ b⟩
  ·intro h
   rw [h.1, h.2])
 refine ⟨D, l, ?_, hl, hD, hf⟩; rw [roundM_eq group ns 0 [] _ (by rw [hT.1]; omega) (fun row hrow q hq => by have := (hT.2 row hrow).2 q hq; omega), hg, hr]
theorem mergeL_some {W n : Nat} {ac : List Bool} {ns : List (List Int)} (hT : TableOK W n ns) : ∀ (f count : Nat) (group : List Int), group.length = n → ClassOK W n ac ns (rd group) → count ≤ n → (∀ k : Nat, k < count → ∃ i, 0 ≤ i ∧ i < (n : Int) ∧ rd group i = (k : Int)) → n + 1 ≤ f + count →
  ∃ g, mergeL ns f count group = some g ∧ g.length = n ∧ ClassEq W n ac ns (rd g) ∧ ∀ i, 0 ≤ i → i < (n : Int) → 0 ≤ rd g i ∧ rd g i < (n : Int) := by
 intro f
 induction f with
 | zero => intro count group _ _ h1 _ h2; omega
 | succ f ih =>
  intro count group hg hC hc hm hf; obtain ⟨D, l, hr, hl, hD, hfin⟩ := roundM_finer hT hg; simp only [mergeL, hr, Option.bind_some]; by_cases e : D.length = count
  ·rw [if_pos e]; subst e; exact ⟨l, rfl, hl, hC.eq hT hfin hm, fun i i0 i1 => by have := hfin.lo i i0 i1; omega⟩
  ·rw [if_neg e]; have := hfin.le hm; exact ih _ _ hl (hC.next hT hfin) hD hfin.met (by omega)
theorem bitL_class {W n : Nat} {ac : List Bool} {ns : List (List Int)} (hn : ac.length = n) : ClassOK W n ac ns (rd (bitL ac)) := by
 have e : ∀ i : Int, rd (bitL ac) i = if rdOf false ac i then 1 else 0 := by
  intro i; unfold rd bitL rdOf; rw [List.getD_eq_getElem?_getD, List.getD_eq_getElem?_getD, List.getElem?_map]
  cases ac[i.toNat]? <;> simp
 refine ⟨fun i j i0 i1 j0 j1 h => ?_, fun i j i0 i1 j0 j1 h => ?_⟩
 ·have := congrFun h []; simp only [lng] at this; rw [e, e, this]
 ·rw [e, e] at h
  revert h
  cases rdOf false ac i <;> cases rdOf false ac j <;> simp
/-- Each class has one of its states. -/
theorem oneL_some {n m : Nat} {gr : List Int} (hgl : gr.length = n) (hgr : ∀ x ∈ gr, 0 ≤ x ∧ x < (m : Int)) : ∀ (l : List Int) (i : Nat) (one : List Int), (∀ j : Nat, j < l.length → l[j]? = gr[i + j]?) → i + l.length = n → one.length = m → (∀ g ∈ l, 0 ≤ g ∧ g < (m : Int)) →
  (∀ j : Nat, j < i → ∀ x, gr[j]? = some x → 0 ≤ rd one x ∧ rd one x < (n : Int) ∧ rd gr (rd one x) = x) →
  ∃ o, oneL l i one = some o ∧ o.length = m ∧ ∀ j : Nat, j < n → ∀ x, gr[j]? = some x → 0 ≤ rd o x ∧ rd o x < (n : Int) ∧ rd gr (rd o x) = x := by
 intro l
 induction l with
 | nil =>
  intro i one h1 h2 h3 h4 h5; simp only [List.length_nil, Nat.add_zero] at h2; subst h2; exact ⟨one, rfl, h3, h5⟩
 | cons g l ih =>
  intro i one h1 h2 h3 h4 h5; have hg := h4 g (by simp); (have hgi : gr[i]? = some g := by simpa using (h1 0 (by simp)).symm); rw [oneL, if_pos ⟨hg.1, by omega⟩]
  have rds : ∀ x, 0 ≤ x → rd (one.set g.toNat (i : Int)) x = if x = g then (i : Int) else rd one x := by
   intro x x0; unfold rd; rw [List.getD_eq_getElem?_getD, List.getD_eq_getElem?_getD, List.getElem?_set]; by_cases e : x = g
   ·subst e; rw [if_pos rfl, if_pos rfl, if_pos (by omega)]; simp
   ·rw [if_neg (by omega), if_neg e]
  refine ih (i + 1) _ (fun j hj => ?_) (by simp only [List.length_cons] at h2; omega) (by simpa using h3) (fun g hg => h4 g (by simp [hg])) ?_
  ·have := h1 (j + 1) (by simp; omega); rw [List.getElem?_cons_succ] at this; rw [this]
   congr 1
   omega
  ·intro j hj x hx; have hx0 : 0 ≤ x := (hgr x (List.mem_of_getElem? hx)).1; rw [rds x hx0]; by_cases e : x = g
   ·rw [if_pos e]; subst e; simp only [List.length_cons] at h2; exact ⟨by omega, by omega, by simp [rd, List.getD_eq_getElem?_getD, hgi]⟩
   ·rw [if_neg e]; refine h5 j ?_ x hx; by_cases e2 : j = i
    ·subst e2; rw [hgi] at hx; exact absurd (Option.some.inj hx).symm e
    ·omega
open Classical in
/-- The tidy table of a language: its states are languages. -/
noncomputable def tidyD (W f : Nat) (L : List Int → Bool) : Option (List Bool × List (List Int)) :=
 growL (fun _ => true) (fun L => some (L [])) (fun L c => some fun w => L (c :: w)) W f [L] [] []
theorem tidyD_same {W f g : Nat} {L : List Int → Bool} {r s : List Bool × List (List Int)} (h : tidyD W f L = some r) (h2 : tidyD W g L = some s) : r = s := by
 classical exact growL_same h h2
theorem rd_of {l : List Int} {i : Nat} {x : Int} (h : l[i]? = some x) : rd l (i : Int) = x := by
 simp [rd, List.getD_eq_getElem?_getD, h]
theorem get_rd {l : List Int} {i : Int} (h0 : 0 ≤ i) (h1 : i < (l.length : Int)) : l[i.toNat]? = some (rd l i) := by
 (have : i.toNat < l.length := by omega); simp [rd, List.getD_eq_getElem?_getD, List.getElem?_eq_getElem this]
theorem merged_law {W n : Nat} {ac : List Bool} {ns : List (List Int)} (hT : TableOK W n ns) (hn : ac.length = n) (h1 : n ≤ 1900000) {start : Int} (s0 : 0 ≤ start) (s1 : start < (n : Int)) {f : Nat} (hf : n + 2 ≤ f) :
  ∃ r, mergedF W f start ac ns = some r ∧ tidyD W f (lng W ac ns start) = some r := by
 obtain ⟨gr, hg, hgl, hE, hb⟩ := mergeL_some (W := W) (ac := ac) hT f 0 (bitL ac) (by simp [bitL, hn]) (bitL_class hn) (by omega) (fun k hk => by omega) (by omega)
 have hgr : ∀ x ∈ gr, 0 ≤ x ∧ x < (n : Int) := by
  intro x hx; obtain ⟨i, hi, he⟩ := List.getElem_of_mem hx; have := hb (i : Int) (by omega) (by omega); rw [rd_of (x := x) (by rw [List.getElem?_eq_getElem hi, he])] at this; exact this
 obtain ⟨o, ho, hol, hoo⟩ := oneL_some (n := n) (m := n) hgl hgr gr 0 (List.replicate n 0) (fun j _ => by rw [Nat.zero_add]) (by omega) (by simp) hgr (fun j hj => by omega)
 have one : ∀ i, 0 ≤ i → i < (n : Int) → 0 ≤ rd o (rd gr i) ∧ rd o (rd gr i) < (n : Int) ∧ rd gr (rd o (rd gr i)) = rd gr i := by
  intro i i0 i1; exact hoo i.toNat (by omega) _ (get_rd i0 (by omega))
 have lone : ∀ i, 0 ≤ i → i < (n : Int) → lng W ac ns (rd o (rd gr i)) = lng W ac ns i := by
  intro i i0 i1; obtain ⟨a, b, c⟩ := one i i0 i1; exact (hE _ _ a b i0 i1).1 c
 have hacc : ∀ i, 0 ≤ i → i < (n : Int) → accM o ac (rd gr i) = some (rdOf false ac i) := by
  intro i i0 i1; obtain ⟨a, b, c⟩ := one i i0 i1; obtain ⟨d, e⟩ := hb i i0 i1; unfold accM; rw [if_pos d, if_pos (by omega), if_pos a, if_pos (by omega)]; have := congrFun (lone i i0 i1) []; simp only [lng] at this; rw [this]
 have hnext : ∀ i c, 0 ≤ i → i < (n : Int) → 0 ≤ c → c < (W : Int) → ∃ j, 0 ≤ j ∧ j < (n : Int) ∧ nextM gr o ns (rd gr i) c = some (rd gr j) ∧ lng W ac ns j = fun w => lng W ac ns i (c :: w) := by
  intro i c i0 i1 c0 c1; obtain ⟨a, b, h⟩ := one i i0 i1; obtain ⟨d, e⟩ := hb i i0 i1; have hs := hT.stpd a b c0 c1; refine ⟨stp ns (rd o (rd gr i)) c, hs.1, hs.2, ?_, ?_⟩
  ·have hrow := hT.row a b; unfold nextM; rw [at1_in d (by omega)]; simp only [Option.bind_some]; rw [show rdOf 0 o (rd gr i) = rd o (rd gr i) from rfl, at1_in a (by rw [hT.1]; exact b)]; simp only [Option.bind_some]; rw [show rdOf [] ns (rd o (rd gr i)) = ns.getD (rd o (rd gr i)).toNat [] from rfl, at1_in c0 (by rw [(hT.2 _ hrow).1]; exact c1)]; simp only [Option.bind_some]; exact at1_in (i := stp ns (rd o (rd gr i)) c) hs.1 (by omega)
  ·funext w
   have := congrFun (lone i i0 i1) (c :: w); rw [← this]; simp [lng, c0, c1]
 have hin : ∀ i, 0 ≤ i → i < (n : Int) → inI64 (rd gr i) = true := by
  intro i i0 i1; obtain ⟨d, e⟩ := hb i i0 i1; simp only [inI64, Bool.and_eq_true, decide_eq_true_eq]; omega
 have total : ∃ r, growL inI64 (accM o ac) (nextM gr o ns) W f [rd gr start] [] [] = some r := by
  refine growL_some (U := gr) (by omega) (fun k c hk c0 c1 => ?_) (fun k hk => ?_) f _ [] [] (by simp) (by intro k hk; simp at hk; subst hk; exact List.mem_of_getElem? (get_rd s0 (by omega))) (by simp) (by simp; omega)
  ·obtain ⟨i, hi, he⟩ := List.getElem_of_mem hk; have ei : rd gr (i : Int) = k := rd_of (by rw [List.getElem?_eq_getElem hi, he]); obtain ⟨j, j0, j1, hj, _⟩ := hnext i c (by omega) (by omega) c0 c1; rw [ei] at hj; exact ⟨_, hj, hin j j0 j1, List.mem_of_getElem? (get_rd j0 (by omega))⟩
  ·obtain ⟨i, hi, he⟩ := List.getElem_of_mem hk; have ei : rd gr (i : Int) = k := rd_of (by rw [List.getElem?_eq_getElem hi, he]); exact ⟨_, by rw [← ei]; exact hacc i (by omega) (by omega)⟩
 obtain ⟨r, hr⟩ := total; refine ⟨r, ?_, ?_⟩
 ·unfold mergedF; rw [hg]; simp only [Option.bind_some]; rw [hgl, ho]; simp only [Option.bind_some]; rw [at1_in s0 (by omega)]; simp only [Option.bind_some]; rw [show rdOf 0 gr start = rd gr start from rfl, if_pos (hin start s0 s1), hr]
 ·classical
  have := growL_map (φ := fun k => lng W ac ns (rd o k)) (S := fun k => ∃ i, 0 ≤ i ∧ i < (n : Int) ∧ rd gr i = k) (K' := List Int → Bool) (good' := fun _ => true) (acc' := fun L => some (L [])) (next' := fun L c => some fun w => L (c :: w)) (W := W)
   (by
    rintro a b ⟨i, i0, i1, rfl⟩ ⟨j, j0, j1, rfl⟩ h; have h' : lng W ac ns (rd o (rd gr i)) = lng W ac ns (rd o (rd gr j)) := h; rw [lone i i0 i1, lone j j0 j1] at h'
    exact (hE i j i0 i1 j0 j1).2 h')
   (by
    rintro k c t ⟨i, i0, i1, rfl⟩ c0 c1 ht; obtain ⟨j, j0, j1, hj, hl⟩ := hnext i c i0 i1 c0 c1; rw [hj] at ht; obtain rfl := Option.some.inj ht; refine ⟨⟨j, j0, j1, rfl⟩, ?_, rfl⟩; show some (fun w => lng W ac ns (rd o (rd gr i)) (c :: w)) = some (lng W ac ns (rd o (rd gr j)))
    rw [lone i i0 i1, lone j j0 j1, hl])
   (by
    rintro k b ⟨i, i0, i1, rfl⟩ hb'; rw [hacc i i0 i1] at hb'; obtain rfl := Option.some.inj hb'; show some (lng W ac ns (rd o (rd gr i)) []) = _; rw [lone i i0 i1]
    rfl)
   f [rd gr start] [] [] r (by intro k hk; simp at hk; subst hk; exact ⟨start, s0, s1, rfl⟩) hr
  have e : ([rd gr start].map fun k => lng W ac ns (rd o k)) = [lng W ac ns start] := by
   simp only [List.map_cons, List.map_nil]; rw [lone start s0 s1]
  rw [e] at this; exact this
section
variable {K : Type} [DecidableEq K] {good : K → Bool} {acc : K → Option Bool} {next : K → Int → Option K} {W : Nat}
theorem growRow_row {nx : Int → Option K} : ∀ (m : Nat) (c : Int) (l : List K) (row : List Int) (l1 : List K) (row1 : List Int), growRow good nx m c l row = some (l1, row1) → l.length ≤ 1900000 →
  ∃ d e, l1 = l ++ d ∧ row1 = row ++ e ∧ e.length = m ∧ l1.length ≤ 1900000 ∧ (∀ k ∈ d, ∃ j : Nat, j < m ∧ nx (c + j) = some k) ∧ ∀ j : Nat, j < m → ∃ (t : K) (i : Nat), nx (c + j) = some t ∧ e[j]? = some (i : Int) ∧ l1[i]? = some t := by
 intro m
 induction m with
 | zero =>
  intro c l row l1 row1 h hl; simp only [growRow, Option.some.injEq, Prod.mk.injEq] at h; obtain ⟨rfl, rfl⟩ := h; exact ⟨[], [], by simp, by simp, rfl, hl, by simp, by simp⟩
 | succ m ih =>
  intro c l row l1 row1 h hl; simp only [growRow] at h; obtain ⟨t, ht, h⟩ := oB h
  split at h
  ·split at h
   ·next e =>
    obtain ⟨d, e1, rfl, rfl, hm, hl1, hd, hj⟩ := ih _ _ _ _ _ h hl; refine ⟨d, (l.idxOf t : Int) :: e1, rfl, by simp, by simp [hm], hl1, ?_, ?_⟩
    ·intro k hk; obtain ⟨j, hj1, hj2⟩ := hd k hk; exact ⟨j + 1, by omega, by rw [← hj2]; congr 1; omega⟩
    ·intro j hjm
     cases j with
     | zero => exact ⟨t, l.idxOf t, by simpa using ht, by simp, by rw [List.getElem?_append_left (List.idxOf_lt_length_iff.2 e), List.getElem?_eq_getElem (List.idxOf_lt_length_iff.2 e), List.getElem_idxOf]⟩
     | succ j =>
      obtain ⟨t', i, h1, h2, h3⟩ := hj j (by omega); exact ⟨t', i, by rw [← h1]; congr 1; omega, by simpa using h2, h3⟩
   ·split at h
    ·next e hlt =>
     obtain ⟨d, e1, rfl, rfl, hm, hl1, hd, hj⟩ := ih _ _ _ _ _ h (by simp; omega); refine ⟨t :: d, (l.length : Int) :: e1, by simp, by simp, by simp [hm], hl1, ?_, ?_⟩
     ·intro k hk
      rcases List.mem_cons.1 hk with rfl | hk
      ·exact ⟨0, by omega, by simpa using ht⟩
      ·obtain ⟨j, hj1, hj2⟩ := hd k hk; exact ⟨j + 1, by omega, by rw [← hj2]; congr 1; omega⟩
     ·intro j hjm
      cases j with
      | zero => exact ⟨t, l.length, by simpa using ht, by simp, by simp⟩
      | succ j =>
       obtain ⟨t', i, h1, h2, h3⟩ := hj j (by omega); exact ⟨t', i, by rw [← h1]; congr 1; omega, by simpa using h2, h3⟩
    ·cases h
  ·cases h
/-- The rows and marks made so far, of the states l. -/
structure GrownOK (acc : K → Option Bool) (next : K → Int → Option K) (W : Nat) (S : K → Prop) (l : List K) (bs : List Bool) (rs : List (List Int)) : Prop where
 len : rs.length = bs.length
 le : bs.length ≤ l.length
 few : l.length ≤ 1900000
 all : ∀ k ∈ l, S k
 acc : ∀ (i : Nat) b, bs[i]? = some b → ∃ k, l[i]? = some k ∧ acc k = some b
 row : ∀ (i : Nat) row, rs[i]? = some row → row.length = W ∧ ∃ k, l[i]? = some k ∧ ∀ j : Nat, j < W → ∃ (t : K) (q : Nat), next k j = some t ∧ row[j]? = some (q : Int) ∧ l[q]? = some t
theorem get_app {α : Type} {l d : List α} {i : Nat} {k : α} (h : l[i]? = some k) : (l ++ d)[i]? = some k := by
 rw [List.getElem?_append_left (List.getElem?_eq_some_iff.1 h).1]; exact h
theorem growL_grown {S : K → Prop} (hS : ∀ k c t, S k → 0 ≤ c → c < (W : Int) → next k c = some t → S t) : ∀ (f : Nat) (l : List K) (bs : List Bool) (rs : List (List Int)) (r : List Bool × List (List Int)), GrownOK acc next W S l bs rs → growL good acc next W f l bs rs = some r →
  ∃ d, GrownOK acc next W S (l ++ d) r.1 r.2 ∧ r.1.length = (l ++ d).length := by
 intro f
 induction f with
 | zero => intro l bs rs r _ h; simp [growL] at h
 | succ f ih =>
  intro l bs rs r hG h; simp only [growL] at h
  cases e : l[bs.length]? with
  | none =>
   rw [e] at h; obtain rfl := Option.some.inj h; refine ⟨[], by simpa using hG, ?_⟩; have := List.getElem?_eq_none_iff.1 e; have := hG.le; simp; omega
  | some k =>
   rw [e] at h; simp only at h; obtain ⟨p, hp, h⟩ := oB h; obtain ⟨b, hb, h⟩ := oB h; obtain ⟨p1, p2⟩ := p; obtain ⟨d, e1, rfl, rfl, hm, hl1, hd, hj⟩ := growRow_row _ _ _ _ _ _ hp hG.few; have hk : S k := hG.all k (List.mem_of_getElem? e); have hlt := (List.getElem?_eq_some_iff.1 e).1
   have hG' : GrownOK acc next W S (l ++ d) (bs ++ [b]) (rs ++ [p2]) := by
    refine ⟨by simp [hG.len], by simp; omega, hl1, ?_, ?_, ?_⟩
    ·intro x hx
     rcases List.mem_append.1 hx with hx | hx
     ·exact hG.all x hx
     ·obtain ⟨j, hj1, hj2⟩ := hd x hx; exact hS k _ x hk (by omega) (by omega) hj2
    ·intro i b' hb'; by_cases ei : i < bs.length
     ·rw [List.getElem?_append_left ei] at hb'; obtain ⟨k', h1, h2⟩ := hG.acc i b' hb'; exact ⟨k', get_app h1, h2⟩
     ·have hi : i = bs.length := by
       have := (List.getElem?_eq_some_iff.1 hb').1; simp at this; omega
      subst hi; rw [List.getElem?_append_right (Nat.le_refl _)] at hb'; simp at hb'; subst hb'; exact ⟨k, get_app e, hb⟩
    ·intro i row hr; by_cases ei : i < rs.length
     ·rw [List.getElem?_append_left ei] at hr; obtain ⟨h0, k', h1, h2⟩ := hG.row i row hr; refine ⟨h0, k', get_app h1, fun j hjW => ?_⟩; obtain ⟨t, q, a, b', c⟩ := h2 j hjW; exact ⟨t, q, a, b', get_app c⟩
     ·have hi : i = rs.length := by
       have := (List.getElem?_eq_some_iff.1 hr).1; simp at this; omega
      subst hi; rw [List.getElem?_append_right (Nat.le_refl _)] at hr; simp at hr; subst hr; refine ⟨by simpa using hm, k, get_app (by rw [hG.len]; exact e), fun j hjW => ?_⟩; obtain ⟨t, q, a, b', c⟩ := hj j hjW; exact ⟨t, q, by rw [← a]; congr 1; omega, by simpa using b', c⟩
   obtain ⟨d', h1, h2⟩ := ih _ _ _ _ hG' h; exact ⟨d ++ d', by simpa using h1, by simpa using h2⟩
theorem growL_table {S : K → Prop} {Λ : K → List Int → Bool} (hS : ∀ k c t, S k → 0 ≤ c → c < (W : Int) → next k c = some t → S t ∧ ∀ w, Λ k (c :: w) = Λ t w) (ha : ∀ k b, S k → acc k = some b → Λ k [] = b) (ho : ∀ k c w, ¬ (0 ≤ c ∧ c < (W : Int)) → Λ k (c :: w) = false)
  {start : K} (h0 : S start) {f : Nat} {r : List Bool × List (List Int)} (h : growL good acc next W f [start] [] [] = some r) :
  TableOK W r.1.length r.2 ∧ 0 < r.1.length ∧ r.1.length ≤ 1900000 ∧ lng W r.1 r.2 0 = Λ start := by
 obtain ⟨d, hG, hlen⟩ := growL_grown (fun k c t a b c' e => (hS k c t a b c' e).1) f [start] [] [] r ⟨rfl, by simp, by simp, by intro k hk; simp at hk; exact hk ▸ h0, by simp, by simp⟩ h; (have hpos : 0 < r.1.length := by rw [hlen]; simp)
 have hT : TableOK W r.1.length r.2 := by
  refine ⟨hG.len, fun row hrow => ?_⟩; obtain ⟨i, hi, he⟩ := List.getElem_of_mem hrow; obtain ⟨hW, k, _, hj⟩ := hG.row i row (by rw [List.getElem?_eq_getElem hi, he]); refine ⟨hW, fun x hx => ?_⟩; obtain ⟨j, hj1, hj2⟩ := List.getElem_of_mem hx; obtain ⟨t, q, _, h2, h3⟩ := hj j (by omega); rw [List.getElem?_eq_getElem hj1, hj2] at h2; obtain rfl := Option.some.inj h2; have := (List.getElem?_eq_some_iff.1 h3).1; omega
 refine ⟨hT, hpos, by rw [hlen]; exact hG.few, ?_⟩
 have key : ∀ (w : List Int) (i : Nat) (k : K), ([start] ++ d)[i]? = some k → lng W r.1 r.2 (i : Int) w = Λ k w := by
  intro w
  induction w with
  | nil =>
   intro i k hk; have hi := (List.getElem?_eq_some_iff.1 hk).1; obtain ⟨k', h1, h2⟩ := hG.acc i r.1[i] (List.getElem?_eq_getElem (by omega)); rw [hk] at h1; obtain rfl := Option.some.inj h1; rw [ha k _ (hG.all k (List.mem_of_getElem? hk)) h2]; simp [lng, rdOf, List.getD_eq_getElem?_getD, List.getElem?_eq_getElem (show i < r.1.length by omega)]
  | cons c w ih =>
   intro i k hk; have hi := (List.getElem?_eq_some_iff.1 hk).1; by_cases hc : 0 ≤ c ∧ c < (W : Int)
   ·obtain ⟨hW, k', h1, h2⟩ := hG.row i (r.2[i]'(by rw [hG.len]; omega)) (List.getElem?_eq_getElem _); rw [hk] at h1; obtain rfl := Option.some.inj h1; obtain ⟨t, q, a, b, c'⟩ := h2 c.toNat (by omega); rw [show ((c.toNat : Nat) : Int) = c by omega] at a
    have hs : stp r.2 (i : Int) c = (q : Int) := by
     simp only [stp, rd, Int.toNat_natCast]; rw [List.getD_eq_getElem?_getD, List.getD_eq_getElem?_getD, List.getElem?_eq_getElem (show i < r.2.length by rw [hG.len]; omega)]; simp only [Option.getD_some]; rw [b]; rfl
    obtain ⟨_, hΛ⟩ := hS k c t (hG.all k (List.mem_of_getElem? hk)) hc.1 hc.2 a; simp only [lng, hc, decide_true, Bool.true_and]; rw [hs, ih q t c', hΛ]
   ·rw [ho k c w hc]; simp only [lng]; by_cases c0 : 0 ≤ c
    ·simp [show ¬ c < (W : Int) from fun h => hc ⟨c0, h⟩]
    ·simp [c0]
 funext w
 exact key w 0 start (by simp)
end
def tabR (W : Nat) (f : Nat → Int) : List Int := (List.range W).map f
def tabN (n W : Nat) (f : Nat → Nat → Int) : List (List Int) := (List.range n).map fun s => tabR W (f s)
theorem tabR_snoc (f : Nat → Int) (c : Nat) : tabR (c + 1) f = tabR c f ++ [f c] := by simp [tabR, List.range_succ]
theorem tabN_snoc (W : Nat) (f : Nat → Nat → Int) (n : Nat) : tabN (n + 1) W f = tabN n W f ++ [tabR W (f n)] := by simp [tabN, List.range_succ]
theorem tabR_len (W : Nat) (f : Nat → Int) : (tabR W f).length = W := by simp [tabR]
theorem tabN_len (n W : Nat) (f : Nat → Nat → Int) : (tabN n W f).length = n := by simp [tabN]
def sumN (W : Nat) (f : Nat → Nat) : Nat := ((List.range W).map f).sum
theorem sumN_succ (W : Nat) (f : Nat → Nat) : sumN (W + 1) f = sumN W f + f W := by simp [sumN, List.range_succ]
theorem sumN_le {W : Nat} {f g : Nat → Nat} (h : ∀ c, c < W → f c ≤ g c) : sumN W f ≤ sumN W g := by
 induction W with
 | zero => simp [sumN]
 | succ W ih => rw [sumN_succ, sumN_succ]; exact Nat.add_le_add (ih (fun c hc => h c (by omega))) (h W (by omega))
theorem sumN_eq {W : Nat} {f g : Nat → Nat} (h : ∀ c, c < W → f c = g c) : sumN W f = sumN W g := Nat.le_antisymm (sumN_le (fun c hc => Nat.le_of_eq (h c hc))) (sumN_le (fun c hc => Nat.le_of_eq (h c hc).symm))
theorem sumN_all_zero {W : Nat} {f : Nat → Nat} (h : ∀ c, c < W → f c = 0) : sumN W f = 0 := by
 induction W with
 | zero => rfl
 | succ W ih => rw [sumN_succ, ih (fun c hc => h c (by omega)), h W (by omega)]
theorem sumN_ge {W : Nat} {f : Nat → Nat} {i : Nat} (h : i < W) : f i ≤ sumN W f := by
 induction W with
 | zero => omega
 | succ W ih =>
  rw [sumN_succ]; by_cases e : i = W
  ·subst e; omega
  ·have := ih (by omega); omega
/-- One term has grown. -/
theorem sumN_one_more {W : Nat} {f g : Nat → Nat} {i d : Nat} (hi : i < W) (h : ∀ c, c < W → c ≠ i → g c = f c) (hd : g i = f i + d) : sumN W g = sumN W f + d := by
 induction W with
 | zero => omega
 | succ W ih =>
  rw [sumN_succ, sumN_succ]; by_cases e : i = W
  ·subst e; rw [sumN_eq (fun c hc => h c (by omega) (by omega)), hd]; omega
  ·rw [ih (by omega) (fun c hc hne => h c (by omega) hne), h W (by omega) (fun e2 => e e2.symm)]; omega
/-- The states from which nothing is taken, by their distances. -/
def deadF (F : List Int) (q : Nat) : Bool := decide (rd F (q : Int) < 0)
/-- The lists of n columns that lead from a state to an accepting one. -/
def cnt (W : Nat) (ac : List Bool) (ns : List (List Int)) : Nat → Int → Nat
 | 0, q => if rdOf false ac q = true then 1 else 0
 | n + 1, q => sumN W fun c => cnt W ac ns n (stp ns q (c : Int))
/-- The sum of a row, cut off at a cap after every step. -/
def sumC (top : Nat) (f : Nat → Nat) : Nat → Nat
 | 0 => 0
 | W + 1 => min (sumC top f W + f W) top
/-- The reference's table of ways, cut off at a cap. -/
def cntC (top W : Nat) (ac : List Bool) (ns : List (List Int)) : Nat → Int → Nat
 | 0, q => if rdOf false ac q = true then 1 else 0
 | n + 1, q => sumC top (fun c => cntC top W ac ns n (stp ns q (c : Int))) W
theorem sumC_le {top : Nat} {f : Nat → Nat} (W : Nat) : sumC top f W ≤ top := by
 cases W with
 | zero => exact Nat.zero_le _
 | succ W => rw [sumC]; omega
theorem cntC_le {top W : Nat} (h : 1 ≤ top) {ac : List Bool} {ns : List (List Int)} (n : Nat) (q : Int) : cntC top W ac ns n q ≤ top := by
 cases n with
 | zero => rw [cntC]; split <;> omega
 | succ n => rw [cntC]; exact sumC_le W
def waysF (top W : Nat) (ac : List Bool) (ns : List (List Int)) (n q : Nat) : Int := ((cntC top W ac ns n (q : Int) : Nat) : Int)
/-- A row that is filled from the front. -/
def fillR (N i : Nat) (f : Nat → Int) : List Int := tabR i f ++ List.replicate (N - i) 0
theorem fillR_len {N i : Nat} (h : i ≤ N) (f : Nat → Int) : (fillR N i f).length = N := by simp [fillR, tabR_len]; omega
theorem fillR_zero (N : Nat) (f : Nat → Int) : fillR N 0 f = List.replicate N 0 := by simp [fillR, tabR]
theorem fillR_end (N : Nat) (f : Nat → Int) : fillR N N f = tabR N f := by simp [fillR]
theorem fillR_set {N i : Nat} (h : i < N) (f : Nat → Int) : (fillR N i f).set i (f i) = fillR N (i + 1) f := by
 unfold fillR; rw [List.set_append_right _ _ (by rw [tabR_len]; exact Nat.le_refl _), tabR_len, Nat.sub_self, show N - i = (N - (i + 1)) + 1 by omega, List.replicate_succ, List.set_cons_zero, tabR_snoc, List.append_assoc]; rfl
theorem fillR_skip {N i : Nat} (h : i < N) (f : Nat → Int) (hf : f i = 0) : fillR N i f = fillR N (i + 1) f := by
 rw [← fillR_set h f, hf]
 symm
 apply List.ext_getElem?; intro j; rw [List.getElem?_set]
 split
 ·rename_i e
  subst e; rw [if_pos (by rw [fillR_len (by omega)]; exact h)]; unfold fillR; rw [List.getElem?_append_right (by rw [tabR_len]; exact Nat.le_refl _), tabR_len, Nat.sub_self, List.getElem?_replicate, if_pos (by omega)]
 ·rfl
theorem fillR_set0 {N i : Nat} (h : i < N) (f : Nat → Int) : (fillR N i f).set i 0 = fillR N i f := by
 apply List.ext_getElem?; intro j; rw [List.getElem?_set]
 split
 ·rename_i e
  subst e; rw [if_pos (by rw [fillR_len (by omega)]; exact h)]; unfold fillR; rw [List.getElem?_append_right (by rw [tabR_len]; exact Nat.le_refl _), tabR_len, Nat.sub_self, List.getElem?_replicate, if_pos (by omega)]
 ·rfl
theorem tabR_at {W q : Nat} (h : q < W) (f : Nat → Int) : rd (tabR W f) (q : Int) = f q := by
 simp [rd, tabR, List.getD_eq_getElem?_getD, List.getElem?_map, List.getElem?_range h]
/-- Cells of a block that hold numbers. -/
def cellsP (g N : Nat) (f : Nat → Int) : Part := fun ok W => ok g ∧ g < W.heap.size ∧ ∀ q : Nat, q < N → W.cell? ⟨g, q, none⟩ = some (.int .i64 (f q))
theorem cellsP_ok (g N : Nat) (f : Nat → Int) : POk (cellsP g N f) :=
 ⟨fun h hk => ⟨hk _ h.1, h.2⟩, fun {ok W W1} h hm => ⟨⟨h.1, h.2.1⟩, by
  have hb := hm g h.1 h.2.1
  have hlt : g < W1.heap.size := by
   have : (W1.heap[g]?).isSome := by rw [hb]; simp [h.2.1]
   simpa using this
  exact hlt, fun q hq => by
  have hb := hm g h.1 h.2.1; rw [← h.2.2 q hq]
  simp only [World.cell?, hb]⟩⟩
/-- A row's block, as cells. -/
theorem row_cells {e base g c N : Nat} {W : World} {ok : Nat → Prop} {f : Nat → Int} (h : (Kd.int .i64).R e W base ok (.slice (some ⟨g, 0, none⟩) N c) (tabR N f)) (h0 : 0 < N) : cellsP g N f ok W := by
 refine ⟨h.1 g rfl, Kd.R_lt h g rfl, fun q hq => ?_⟩; (have h2 : (Kd.int .i64).R e W base ok (.slice (some ⟨g, 0, none⟩) (tabR N f).length c) (tabR N f) := by rw [tabR_len]; exact h); obtain ⟨h1, -⟩ := Kd.R_cell (0 : Int) h2 (q : Int) (by omega) (by rw [tabR_len]; omega); rw [show rdOf 0 (tabR N f) (q : Int) = f q by simp [rdOf, tabR, List.getD_eq_getElem?_getD, List.getElem?_map, List.getElem?_range (show q < N by omega)]] at h1
 simpa using h1
/-- A literal of one row. -/
theorem S_one {α : Type} {d : Kd α} {e base : Nat} (W : World) (x : α) (cs : List Value) (ok okp : Nat → Prop) (hx : d.M (W.alloc (.cells cs.toArray e)) base okp x cs) (hokp : ∀ k, okp k → ok k ∧ k ≠ W.heap.size) (hl : cs.length = d.sz) (hb : base ≤ W.heap.size) (hok : ok W.heap.size) :
  Kd.S d e (W.alloc (.cells cs.toArray e)) base ok (.slice (some ⟨W.heap.size, 0, none⟩) 1 1) [x] := by
 refine ⟨fun _ => 0, ?_⟩; show (Kd.tag (fun _ => 0) d).R e _ base ok _ [(x, 0)]; refine ⟨fun k hk => ?_, cs, ?_, ?_⟩
 ·(have : W.heap.size = k := by simpa [Value.ownBlock] using hk); subst this; exact hok
 ·have h2 := World.ownsRow_lit (base := base) (e := e) (size := d.sz) W cs.toArray 1 hb (by simp [maxLen]) (by simpa using hl); exact (by simpa using h2 : (W.alloc (.cells cs.toArray e)).ownsRow base e d.sz (.slice (some ⟨W.heap.size, 0, none⟩) 1 1) 1 cs)
 ·refine ⟨by show cs.length = [(x, 0)].length * d.sz; simp [hl], fun j p hj => ?_⟩; (have hj0 : j = 0 := by have := (List.getElem?_eq_some_iff.1 hj).1; simp at this; omega); subst hj0; (have hp : (x, 0) = p := by simpa using hj); subst hp; show (Kd.tag (fun _ => 0) d).M _ _ _ _ ((cs.drop (0 * d.sz)).take d.sz); rw [Nat.zero_mul, List.drop_zero, ← hl, List.take_length]; exact d.M_mono (fun k hk => ⟨⟨(hokp k hk).1, by simpa [Value.ownBlock] using (hokp k hk).2⟩, rfl⟩) hx
end Go.Proofs.YtelicdmaohllgaaDoor.X
namespace Go.Proofs.YtelicdmaohllgaaDoor.X
set_option maxHeartbeats 16000000
set_option maxRecDepth 100000
open Go.RowKit Go.Proofs.YtelicdmaohllgaaDoorW.PrintWords Go.Proofs.YtelicdmaohllgaaDoorW.PrintLast Go.Proofs.YtelicdmaohllgaaDoorW.PrintMore
attribute [local go_sem] max2_int min2_int max_two min_two max_three min_three max_four min_four
set_option linter.unusedVariables false
set_option linter.unusedSimpArgs false
def spec_l00Min.f (a0 : Int) (a1 : Int) : Option (Int) := if a0 < a1 then (some a0) else (some a1)
theorem spec_l00Min.calls (a0 : Int) (a1 : Int) (r : Int) (w : World) (h : spec_l00Min.f a0 a1 = some r) :
  Calls Tryd.prog 133 #[.int .i64 a0, .int .i64 a1] w fun e w' => e = .returned (.int .i64 r) ∧ Drawn0 w w' := by
 have H : (if a0 < a1 then (some a0) else (some a1)) = some r := h; clear h; by_cases c3 : a0 < a1
 ·rw [if_pos c3] at H; have c3b0 := decide_eq_true c3; clear c3; obtain rfl := Option.some.inj H; go_enter Tryd.func133, Tryd.ntmps133; go_wp2; go_ret; exact ⟨tF, tD⟩
 ·rw [if_neg c3] at H; have c3b0 := decide_eq_false c3; clear c3; obtain rfl := Option.some.inj H; go_enter Tryd.func133, Tryd.ntmps133; go_wp2; go_ret; exact ⟨tF, tD⟩
end Go.Proofs.YtelicdmaohllgaaDoor.X
namespace Go.Proofs.YtelicdmaohllgaaDoor.X
set_option maxHeartbeats 16000000
set_option maxRecDepth 100000
open Go.RowKit Go.Proofs.YtelicdmaohllgaaDoorW.PrintWords Go.Proofs.YtelicdmaohllgaaDoorW.PrintLast Go.Proofs.YtelicdmaohllgaaDoorW.PrintMore
set_option linter.unusedVariables false
set_option linter.unusedSimpArgs false
theorem ways_calls (w : World) (pq : Addr) (Aa : Option Addr) (ca : Nat) (ac : List Bool) (An : Option Addr) (cn : Nat) (ns : List (List Int)) (hm2 : w.cell? ⟨pq.block, pq.off + 2, none⟩ = some (.slice Aa ac.length ca)) (hm3 : w.cell? ⟨pq.block, pq.off + 3, none⟩ = some (.slice An ns.length cn)) (hA : Kd.C Kd.bool w Aa ac.length ac) (hN : Kd.C (Kd.slice 2 (Kd.int .i64)) w An ns.length ns)
  {W L top : Nat} (hT : TableOK W ac.length ns) (h0 : 0 < ac.length) (h1 : ac.length ≤ 2000000) (hW : W ≤ 1000) (hL : L ≤ 5000000) (ht1 : 1 ≤ top) (ht2 : top ≤ 1152921504606846976) :
  Calls Tryd.prog 84 #[.pointer (some pq), .int .i64 (L : Int), .int .i64 (top : Int)] w fun e w' => ∃ v, e = .returned v ∧ Kd.S (Kd.slice 2 (Kd.int .i64)) 25 w' w.heap.size (fun _ => True) v (tabN (L + 1) ac.length (waysF top W ac ns)) ∧ Below w.heap.size w w' := by
 have HG := am (And.intro hm2 hm3); have HA := am hA; have HN := am hN; have HT := am hT; have HC := am (And.intro h0 (And.intro h1 (And.intro hW (And.intro hL (And.intro ht1 ht2))))); have m2 : w.cell? ⟨pq.block, pq.off + 2, none⟩ = some (.slice Aa ac.length ca) := hm2; have hN8 := am (show (ac.length : Int).toNat * 8 ≤ 281474976710656 by omega); have hN0 := am (show (0 : Int) ≤ (ac.length : Int) by omega); have c0 : (0 ≤ (ac.length : Int)) = True := eq_true (by omega); clear hm2 hm3 hA hN hT h0 h1 hW hL ht1 ht2; go_enter Tryd.func84, Tryd.ntmps84
 go_wp2_with (first | ((with_reducible refine gate_dst (N := 19) rfl ?_); refine Kd.R_make (Kd.int .i64) (w0 := w) w.heap.size 2 rfl (N := 19) rfl 25 _ _ rfl (ac.length : Int) rfl rfl Tryd.underlying25 (.int .i64 0) 8 info2 rfl (by decide) (by decide) 0 (ok := fun _ => True) (okp := fun _ => False) rfl (fun _ hk => hk.elim) trivial hN0.out hN8.out (Below.refl _ _) (Nat.le_refl _) ?_; intro v19 w4 ho hb hg_ hnew_; have HO := am ho; have HB4 := am hb; clear hg_ hnew_ ho hb))
 have hsp : ∃ g7 c7, v19 = .slice (some ⟨g7, 0, none⟩) ac.length c7 ∧ Sep (fun _ => 1) w4 [(1, rowP (Kd.int .i64) 2 w.heap.size (.slice (some ⟨g7, 0, none⟩) ac.length c7) (fillR ac.length 0 (waysF top W ac ns 0)))] := by
  have h_ := HO.out; simp only [Int.toNat_natCast] at h_; obtain ⟨g7, c7, rfl, _⟩ := Kd.R_form h_ (by rw [List.length_replicate]; exact HC.out.1); rw [List.length_replicate] at h_; refine ⟨g7, c7, by rw [List.length_replicate], ⟨rowP_ok _ _ _ _ _, ?_⟩, trivial⟩; rw [fillR_zero]; exact Kd.R_mono h_ (fun _ _ => rfl)
 obtain ⟨g7, c7, rfl, hsp2⟩ := hsp; have HSp := am hsp2; clear hsp2 HO m2 hN8 hN0 c0
 go_loopg [8] ac.length (fun kq v8 w' => ∃ (i : Nat), v8 = .int .i64 (i : Int) ∧ Aside0 (i + kq = ac.length) ∧ Aside0 (Below w.heap.size w w') ∧ Aside0 (Sep (fun _ => 1) w' [(1, rowP (Kd.int .i64) 2 w.heap.size (.slice (some ⟨g7, 0, none⟩) ac.length c7) (fillR ac.length i (waysF top W ac ns 0)))]))
 case atStart => exact ⟨0, rfl, ⟨by omega⟩, HB4, HSp⟩
 case round =>
  clear HB4 HSp; obtain ⟨i, rfl, HK, HB, HSp⟩ := hrel; have m2 : wr.cell? ⟨pq.block, pq.off + 2, none⟩ = some (.slice Aa ac.length ca) := pw_cell_below HB.out HG.out.1
  cases gk with
  | zero =>
   (have hi : i = ac.length := by have := HK.out; omega); have c1 : decide ((i : Int) < (ac.length : Int)) = false := decide_eq_false (by omega); have c2 : decide (i < ac.length) = false := decide_eq_false (by omega); have HSp1 : Aside0 (Sep (fun _ => 1) wr [(1, rowP (Kd.int .i64) 2 w.heap.size (.slice (some ⟨g7, 0, none⟩) ac.length c7) (tabR ac.length (waysF top W ac ns 0)))]) := ⟨by have h_ := HSp.out; rw [hi, fillR_end] at h_; exact h_⟩; clear HSp HK hi
   go_upto_region 8 with (fail)
   clear m2 c1 c2
   have HS2 : Aside0 (∃ own, Sep own (wr.alloc (.cells #[.slice (some ⟨g7, 0, none⟩) ac.length c7] 25)) [(1, rowsP (Kd.slice 2 (Kd.int .i64)) 25 w.heap.size (.slice (some ⟨wr.heap.size, 0, none⟩) 1 1) (tabN (0 + 1) ac.length (waysF top W ac ns))), (1, cellsP g7 ac.length (waysF top W ac ns 0))]) := ⟨fun _ => 1, by
    have hR := HSp1.out.get (i := 0) rfl; have hlt := Kd.R_lt hR g7 rfl; have hba : Below wr.heap.size wr (wr.alloc (.cells #[.slice (some ⟨g7, 0, none⟩) ac.length c7] 25)) := (Below.refl _ _).alloc (Nat.le_refl _) _; have hR2 := Kd.R_below hR hba; refine ⟨⟨rowsP_ok _ _ _ _ _, ?_⟩, ⟨cellsP_ok _ _ _, row_cells hR2 HC.out.1⟩, trivial⟩; have hR3 := Kd.R_mono (Kd.R_bound hR) (fun k hk => (show k < wr.heap.size from hk.2.2.1))
    exact S_one (d := Kd.slice 2 (Kd.int .i64)) wr (tabR ac.length (waysF top W ac ns 0)) [.slice (some ⟨g7, 0, none⟩) ac.length c7] (fun _ => 1 = 1) (fun k => k < wr.heap.size) ⟨_, rfl, Kd.R_below hR3 hba⟩ (fun k hk => ⟨rfl, by omega⟩) rfl HB.out.size rfl⟩
   have HB2 := am (HB.out.alloc HB.out.size (.cells #[.slice (some ⟨g7, 0, none⟩) ac.length c7] 25)); clear HSp1 HB
   generalize World.alloc _ _ = w5 at HS2 HB2 ⊢
   generalize (Value.slice (some ⟨wr.heap.size, 0, none⟩) 1 1) = v9 at HS2 ⊢
   obtain ⟨own, hsp⟩ := HS2.out; have HSp := am hsp; clear HS2 hsp wr; go_wp2
   go_loopg [7, 9, 10] L (fun kq v7 v9 v10 w' => ∃ (own : Nat → Nat) (m g7 c7 : Nat), v10 = .int .i64 ((m + 1 : Nat) : Int) ∧ v7 = .slice (some ⟨g7, 0, none⟩) ac.length c7 ∧ Aside0 (m + kq = L) ∧ Aside0 (Below w.heap.size w w') ∧ Aside0 (Sep own w' [(1, rowsP (Kd.slice 2 (Kd.int .i64)) 25 w.heap.size v9 (tabN (m + 1) ac.length (waysF top W ac ns))), (1, cellsP g7 ac.length (waysF top W ac ns m))]))
   case atStart => exact ⟨own, 0, g7, c7, rfl, rfl, ⟨by omega⟩, HB2, HSp⟩
   case round =>
    clear HB2 HSp; obtain ⟨own, m, g7, c7, rfl, rfl, HK, HB, HSp⟩ := hrel; obtain ⟨A9, c9, hv9⟩ := Kd.S_slice (HSp.out.get (i := 0) rfl); subst hv9
    cases gk with
    | zero =>
     (have hm : m = L := by have := HK.out; omega); have c1 : decide (((m + 1 : Nat) : Int) ≤ (L : Int)) = false := decide_eq_false (by omega); have c2 : decide (m + 1 ≤ L) = false := decide_eq_false (by omega); have hS := am (HSp.out.get (i := 0) rfl); clear HSp; go_wp2; go_ret; subst hm; exact ⟨_, rfl, Kd.S_mono hS.out (fun _ _ => trivial), HB.out⟩
    | succ k1 =>
     (have hm : m < L := by have := HK.out; omega); have c1 : decide (((m + 1 : Nat) : Int) ≤ (L : Int)) = true := decide_eq_true (by omega); have c2 : decide (m + 1 ≤ L) = true := decide_eq_true (by omega); have m2 : wr.cell? ⟨pq.block, pq.off + 2, none⟩ = some (.slice Aa ac.length ca) := pw_cell_below HB.out HG.out.1; have hN8 := am (show (ac.length : Int).toNat * 8 ≤ 281474976710656 by have := HC.out.2.1; omega); have hN0 := am (show (0 : Int) ≤ (ac.length : Int) by omega); have c0 : (0 ≤ (ac.length : Int)) = True := eq_true (by omega)
     go_wp2_with (first | ((with_reducible refine gate_dst (N := 51) rfl ?_); refine Kd.R_make (Kd.int .i64) (w0 := w) w.heap.size 2 rfl (N := 51) rfl 25 _ _ rfl (ac.length : Int) rfl rfl Tryd.underlying25 (.int .i64 0) 8 info2 rfl (by decide) (by decide) 0 (ok := fun k => wr.heap.size ≤ k) (okp := fun _ => False) rfl (fun _ hk => hk.elim) (Nat.le_refl _) hN0.out hN8.out HB.out HB.out.size ?_; intro v51 w5 ho hb hg_ hnew_; have HO := am ho; have HB5 := am hb; have HG5 := am hg_; clear hg_ hnew_ ho hb))
     have hsp : ∃ gn cn_, v51 = .slice (some ⟨gn, 0, none⟩) ac.length cn_ ∧ ∃ own', Sep own' w5 [(1, rowsP (Kd.slice 2 (Kd.int .i64)) 25 w.heap.size (.slice A9 (tabN (m + 1) ac.length (waysF top W ac ns)).length c9) (tabN (m + 1) ac.length (waysF top W ac ns))), (1, cellsP g7 ac.length (waysF top W ac ns m)), (2, rowP (Kd.int .i64) 2 w.heap.size (.slice (some ⟨gn, 0, none⟩) ac.length cn_) (fillR ac.length 0 (waysF top W ac ns (m + 1))))] := by
      have h_ := HO.out; simp only [Int.toNat_natCast] at h_; obtain ⟨gn, cn_, rfl, _⟩ := Kd.R_form h_ (by rw [List.length_replicate]; exact HC.out.1); rw [List.length_replicate] at h_; refine ⟨gn, cn_, by rw [List.length_replicate], _, HSp.out.new (t := 2) (below_of_grown HG5.out) (rowP_ok _ _ _ _ _) ?_ rfl⟩; rw [fillR_zero]; exact h_
     obtain ⟨gn, cn_, rfl, own', hsp2⟩ := hsp; have HSp2 := am hsp2; clear hsp2 HO m2 hN8 hN0 c0 HSp HB HG5 c1 c2
     go_loopg [12] ac.length (fun kq v12 w' => ∃ (i : Nat), v12 = .int .i64 (i : Int) ∧ Aside0 (i + kq = ac.length) ∧ Aside0 (Below w.heap.size w w') ∧ Aside0 (Sep own' w' [(1, rowsP (Kd.slice 2 (Kd.int .i64)) 25 w.heap.size (.slice A9 (tabN (m + 1) ac.length (waysF top W ac ns)).length c9) (tabN (m + 1) ac.length (waysF top W ac ns))), (1, cellsP g7 ac.length (waysF top W ac ns m)), (2, rowP (Kd.int .i64) 2 w.heap.size (.slice (some ⟨gn, 0, none⟩) ac.length cn_) (fillR ac.length i (waysF top W ac ns (m + 1))))]))
     case atStart => exact ⟨0, rfl, ⟨by omega⟩, HB5, HSp2⟩
     case round =>
      clear HB5 HSp2; obtain ⟨i, rfl, HK2, HB, HSp⟩ := hrel; have m2 : wr.cell? ⟨pq.block, pq.off + 2, none⟩ = some (.slice Aa ac.length ca) := pw_cell_below HB.out HG.out.1
      cases gk with
      | zero =>
       (have hi : i = ac.length := by have := HK2.out; omega); have c1 : decide ((i : Int) < (ac.length : Int)) = false := decide_eq_false (by omega); have c2 : decide (i < ac.length) = false := decide_eq_false (by omega); have HSp1 := am (HSp.out.drop 1); simp only [List.eraseIdx_cons_succ, List.eraseIdx_cons_zero] at HSp1; have HRt : Aside0 ((Kd.int .i64).R 2 wr w.heap.size (fun k => retag own' wr.heap.size 1 k = 2) (.slice (some ⟨gn, 0, none⟩) ac.length cn_) (tabR ac.length (waysF top W ac ns (m + 1)))) := ⟨by have h_ := HSp1.out.rowTag2 1 rfl 1; rw [hi, fillR_end] at h_; exact h_⟩; have HSp2 := am (HSp1.out.drop 1); simp only [List.eraseIdx_cons_succ, List.eraseIdx_cons_zero] at HSp2; have HCe : Aside0 (cellsP gn ac.length (waysF top W ac ns (m + 1)) (fun k => own' k = 2) wr) := ⟨row_cells (by have h_ := HSp1.out.get (i := 1) rfl; rw [hi, fillR_end] at h_; exact h_) HC.out.1⟩; (have hml : m < 5000000 := by have := HC.out.2.2.2.1; omega); clear HSp HSp1 HK2 hi
       go_wp2_with (first | ((with_reducible refine gate_builtin (b := .append) (xs := #[.tmp 97, .tmp 99]) rfl ?_); at_builtin; refine Kd.S_append (Kd.slice 2 (Kd.int .i64)) (w0 := w) w.heap.size rfl (.tmp 97) (.tmp 99) 36 25 (.slice none 0 0) 24 rfl Tryd.underlying36 info25 rfl (by decide) (by decide) (.slice A9 (tabN (m + 1) ac.length (waysF top W ac ns)).length c9) (tabN (m + 1) ac.length (waysF top W ac ns)) (tabR ac.length (waysF top W ac ns (m + 1))) [.slice (some ⟨gn, 0, none⟩) ac.length cn_] _ _ rfl rfl ?aP ?aK ?aF (HSp2.out.rowsTag (u := 2) 0 rfl (by decide)) ?aB ?aS ?aL ?_; (case aP => exact ⟨_, rfl, HRt.out⟩); (case aK => intro k hk; exact ⟨Or.inr hk, fun he => by have h_ := (Kd.S_R (HSp2.out.rowsTag (u := 2) 0 rfl (by decide))).1 k he.symm; exact h_.2 hk⟩); (case aF => exact (fun _ hk => Or.inl (retag_ge hk))); (case aB => exact HB.out); (case aS => exact HB.out.size); (case aL => rw [tabN_len]; omega); intro v8 w8 ho hb hg hat; have HO8 := am ho; have HB8 := am hb; have HG8 := am hg; clear ho hb hg hat))
       have HSp3 : Aside0 (∃ own2, Sep own2 w8 [(1, rowsP (Kd.slice 2 (Kd.int .i64)) 25 w.heap.size v8 (tabN (m + 1 + 1) ac.length (waysF top W ac ns))), (1, cellsP gn ac.length (waysF top W ac ns (m + 1)))]) := ⟨by
        have h1 := HSp2.out.appendedRows (u := 2) 0 rfl HO8.out HG8.out rfl rfl; simp only [List.set_cons_succ, List.set_cons_zero] at h1; rw [← tabN_snoc] at h1; refine ⟨_, h1.snoc (t := 1) (cellsP_ok _ _ _) ?_⟩; have hown := (HSp2.out.get (i := 0) rfl); have hne : ∀ k, own' k = 2 → k < wr.heap.size → w8.heap[k]? = wr.heap[k]? := fun k hk hlt => HG8.out.block k hlt (fun he => by have h_ := (Kd.S_R hown).1 k he.symm; omega); have h2 := (cellsP_ok gn ac.length (waysF top W ac ns (m + 1))).step HCe.out hne
        exact (cellsP_ok _ _ _).mono h2 (fun k hk => by rw [retag_lt hk.2, if_pos hk.1])⟩
       obtain ⟨own2, hsp3⟩ := HSp3.out; have HSp4 := am hsp3; clear HSp3 hsp3 HO8 HG8 HSp2 HRt HCe; go_roundg k1
       case measure => omega
       case rel => exact ⟨own2, m + 1, gn, cn_, by go_num, rfl, ⟨by have := HK.out; omega⟩, HB8, HSp4⟩
      | succ k2 =>
       (have hi : i < ac.length := by have := HK2.out; omega); (have hil : i < 2000000 := by have := HC.out.2.1; omega); (have hml : m < 5000000 := by have := HC.out.2.2.2.1; omega); have c1 : decide ((i : Int) < (ac.length : Int)) = true := decide_eq_true (by omega); have c2 : decide (i < ac.length) = true := decide_eq_true (by omega); have hnl : ns.length = ac.length := HT.out.1; obtain ⟨ad1, Ar, cr, ea1, hx1, hlr, hCr⟩ := at_rows HN.out (i : Int) (by omega) (by omega); subst ea1
       have hrow : rdR ns (i : Int) ∈ ns := by
        have h_ := HT.out.row (q := (i : Int)) (by omega) (by omega); exact h_
       have hrl : (rdR ns (i : Int)).length = W := (HT.out.2 _ hrow).1; have hst : ∀ c : Nat, rd (rdR ns (i : Int)) (c : Int) = stp ns (i : Int) (c : Int) := fun c => rfl; rw [hrl] at hx1 hlr hCr; generalize rdR ns (i : Int) = row at *; simp only [Int.toNat_natCast] at hx1; have HX1 := am hx1; have HCr := am hCr; have HST := am hst; clear hx1 hlr hCr hrow hrl hst hnl; have HSp2 : Aside0 (Sep own' wr [(1, rowsP (Kd.slice 2 (Kd.int .i64)) 25 w.heap.size (.slice A9 (tabN (m + 1) ac.length (waysF top W ac ns)).length c9) (tabN (m + 1) ac.length (waysF top W ac ns))), (1, cellsP g7 ac.length (waysF top W ac ns m)), (2, rowP (Kd.int .i64) 2 w.heap.size (.slice (some ⟨gn, 0, none⟩) ac.length cn_) ((fillR ac.length i (waysF top W ac ns (m + 1))).set i ((sumC top (fun c => cntC top W ac ns m (stp ns (i : Int) (c : Int))) 0 : Nat) : Int)))]) := ⟨by rw [show ((sumC top (fun c => cntC top W ac ns m (stp ns (i : Int) (c : Int))) 0 : Nat) : Int) = 0 from rfl, fillR_set0 hi]; exact HSp.out⟩; have HI := am hi; clear HSp hi; go_wp2
       go_loopg [13] W (fun kq v13 w' => ∃ (j : Nat), v13 = .int .i64 (j : Int) ∧ Aside0 (j + kq = W) ∧ Aside0 (Below w.heap.size w w') ∧ Aside0 (Sep own' w' [(1, rowsP (Kd.slice 2 (Kd.int .i64)) 25 w.heap.size (.slice A9 (tabN (m + 1) ac.length (waysF top W ac ns)).length c9) (tabN (m + 1) ac.length (waysF top W ac ns))), (1, cellsP g7 ac.length (waysF top W ac ns m)), (2, rowP (Kd.int .i64) 2 w.heap.size (.slice (some ⟨gn, 0, none⟩) ac.length cn_) ((fillR ac.length i (waysF top W ac ns (m + 1))).set i ((sumC top (fun c => cntC top W ac ns m (stp ns (i : Int) (c : Int))) j : Nat) : Int)))]))
       case atStart => exact ⟨0, rfl, ⟨by omega⟩, HB, HSp2⟩
       case round =>
        clear HB HSp2; obtain ⟨j, rfl, HK3, HB, HSp⟩ := hrel; clear m2 c1 c2; have m3 : wr.cell? ⟨pq.block, pq.off + 3, none⟩ = some (.slice (some ad1) ns.length cn) := pw_cell_below HB.out HG.out.2; have x1 : wr.cell? (ad1.add i) = some (.slice Ar W cr) := pw_cell_below HB.out HX1.out; have p0 : (i < ns.length) = True := eq_true (by have := HI.out; have := HT.out.1; omega)
        cases gk with
        | zero =>
         (have hj : j = W := by have := HK3.out; omega); have c1 : decide ((j : Int) < (W : Int)) = false := decide_eq_false (by omega); have c2 : decide (j < W) = false := decide_eq_false (by omega)
         have HSp3 : Aside0 (Sep own' wr [(1, rowsP (Kd.slice 2 (Kd.int .i64)) 25 w.heap.size (.slice A9 (tabN (m + 1) ac.length (waysF top W ac ns)).length c9) (tabN (m + 1) ac.length (waysF top W ac ns))), (1, cellsP g7 ac.length (waysF top W ac ns m)), (2, rowP (Kd.int .i64) 2 w.heap.size (.slice (some ⟨gn, 0, none⟩) ac.length cn_) (fillR ac.length (i + 1) (waysF top W ac ns (m + 1))))]) := ⟨by
          have h_ := HSp.out; rw [hj, show ((sumC top (fun c => cntC top W ac ns m (stp ns (i : Int) (c : Int))) W : Nat) : Int) = waysF top W ac ns (m + 1) i from rfl, fillR_set HI.out] at h_
          exact h_⟩
         clear HSp hj HK3; go_wp2; go_roundg k2
         case measure => omega
         case rel => exact ⟨i + 1, by go_num, ⟨by have := HK2.out; omega⟩, HB, HSp3⟩
        | succ k3 =>
         (have hj : j < W := by have := HK3.out; omega); (have hjl : j < 1000 := by have := HC.out.2.2.1; omega); have c1 : decide ((j : Int) < (W : Int)) = true := decide_eq_true (by omega); have c2 : decide (j < W) = true := decide_eq_true hj; obtain ⟨ad2, ea2, hx2⟩ := Kd.at_int HCr.out (j : Int) (by omega) (by omega); subst ea2; rw [HST.out j] at hx2; simp only [Int.toNat_natCast] at hx2; have hr := HT.out.stpd (q := (i : Int)) (c := (j : Int)) (by omega) (by have := HI.out; omega) (by omega) (by omega); obtain ⟨gA, cA, hvA, hcA, hfA⟩ := HSp.out.int 2 rfl (i : Int) (by omega) (by rw [List.length_set, fillR_len (by have := HI.out; omega)]; have := HI.out; omega); simp only [Value.slice.injEq, Option.some.injEq, Addr.mk.injEq, and_true, true_and, Int.toNat_natCast] at hvA hcA hfA; obtain ⟨hv1, hv2, hv3⟩ := hvA; subst hv1; subst hv3; clear hv2
         rw [show rd ((fillR ac.length i (waysF top W ac ns (m + 1))).set i ((sumC top (fun c => cntC top W ac ns m (stp ns (i : Int) (c : Int))) j : Nat) : Int)) (i : Int) = ((sumC top (fun c => cntC top W ac ns m (stp ns (i : Int) (c : Int))) j : Nat) : Int) by
          simp [rd, List.getD_eq_getElem?_getD, List.getElem?_set, fillR_len (Nat.le_of_lt HI.out), HI.out]] at hcA
         have hc7 := (HSp.out.get (i := 1) rfl).2.2 (stp ns (i : Int) (j : Int)).toNat (by omega)
         have hxf : waysF top W ac ns m (stp ns (i : Int) (j : Int)).toNat = ((cntC top W ac ns m (stp ns (i : Int) (j : Int)) : Nat) : Int) := by
          unfold waysF; rw [Int.toNat_of_nonneg hr.1]
         rw [hxf] at hc7; have hsl := sumC_le (top := top) (f := fun c => cntC top W ac ns m (stp ns (i : Int) (c : Int))) j; have hxl := cntC_le (top := top) (W := W) HC.out.2.2.2.2.1 (ac := ac) (ns := ns) m (stp ns (i : Int) (j : Int)); have hs2 : ((sumC top (fun c => cntC top W ac ns m (stp ns (i : Int) (c : Int))) (j + 1) : Nat) : Int) = ((min (sumC top (fun c => cntC top W ac ns m (stp ns (i : Int) (c : Int))) j + cntC top W ac ns m (stp ns (i : Int) (j : Int))) top : Nat) : Int) := rfl; have htl := HC.out.2.2.2.2.2; have hset : ((fillR ac.length i (waysF top W ac ns (m + 1))).set i ((sumC top (fun c => cntC top W ac ns m (stp ns (i : Int) (c : Int))) j : Nat) : Int)).set i ((sumC top (fun c => cntC top W ac ns m (stp ns (i : Int) (c : Int))) (j + 1) : Nat) : Int) = (fillR ac.length i (waysF top W ac ns (m + 1))).set i ((sumC top (fun c => cntC top W ac ns m (stp ns (i : Int) (c : Int))) (j + 1) : Nat) : Int) := List.set_set ..; generalize sumC top (fun c => cntC top W ac ns m (stp ns (i : Int) (c : Int))) j = s at *; generalize hgs : sumC top (fun c => cntC top W ac ns m (stp ns (i : Int) (c : Int))) (j + 1) = s' at *; have HGS := am hgs; clear hgs hxf; generalize cntC top W ac ns m (stp ns (i : Int) (j : Int)) = x at *
         have HF : Aside0 (spec_l00Min.f (wrap64 ((s : Int) + (x : Int))) (top : Int) = some (s' : Int)) := ⟨by
          unfold spec_l00Min.f; rw [show wrap64 ((s : Int) + (x : Int)) = (s : Int) + (x : Int) by unfold wrap64; omega, hs2]
          split
          ·congr 1; omega
          ·congr 1; omega⟩
         generalize stp ns (i : Int) (j : Int) = tq at *; have hbd : Below wr.heap.size wr wr.drew := below_drew1 (Below.refl _ _); have HSp3 := am (HSp.out.below hbd); have HB3 := am (below_then HB.out HB.out.size hbd); have HXX : Aside0 (∀ V, Below wr.heap.size wr V → V.cell? ⟨gn, i, none⟩ = some (.int .i64 (s : Int)) ∧ V.cell? ⟨pq.block, pq.off + 3, none⟩ = some (.slice (some ad1) ns.length cn) ∧ V.cell? (ad1.add i) = some (.slice (some ad2) W cr) ∧ V.cell? (ad2.add j) = some (.int .i64 tq) ∧ V.cell? ⟨g7, tq.toNat, none⟩ = some (.int .i64 (x : Int))) := ⟨fun V hb => ⟨pw_cell_below hb hcA, pw_cell_below hb m3, pw_cell_below hb x1, pw_cell_below hb (pw_cell_below HB.out hx2), pw_cell_below hb hc7⟩⟩; have HBA := am hbd; have hS := HXX.out _ hbd; have p1 : (j < W) = True := eq_true hj; have p2 : (0 ≤ tq) = True := eq_true hr.1; have p3 : (tq < (ac.length : Int)) = True := eq_true hr.2; have p4 : (i < ac.length) = True := eq_true HI.out; have HFA := am hfA; have HSET := am hset; clear hbd HSp HB hx2 hcA hc7 hfA hset hsl hxl hs2 htl hj hr; go_wp2; clear m3 x1 c1 c2; refine start_ (n := 24) (S := fun V => V.cell? ⟨gn, i, none⟩ = some (.int .i64 (s : Int)) ∧ V.cell? ⟨pq.block, pq.off + 3, none⟩ = some (.slice (some ad1) ns.length cn) ∧ V.cell? (ad1.add i) = some (.slice (some ad2) W cr) ∧ V.cell? (ad2.add j) = some (.int .i64 tq) ∧ V.cell? ⟨g7, tq.toNat, none⟩ = some (.int .i64 (x : Int))) (ds := [23]) #[false, false, false, false, false, false, false, false, false, false, false, false, false, false, false, false, false, false, false, false, false, false, false, false] (by kernel_rfl) rfl rfl hS (fun hHeld => ?_)
         generalize wr.drew = w3 at HSp3 HB3 HBA hS hHeld ⊢
         refine pureA 0 (some 73) (bl 24 1) rfl rfl (h := ?_); refine pureA 1 (some 74) (bl 24 3) rfl rfl (h := ?_); refine pureA 2 (some 75) (bl 24 7) rfl rfl (h := ?_); refine pureA 3 (some 76) (bl 24 15) rfl rfl (h := ?_); refine pureA 4 (some 77) (bl 24 31) rfl rfl (h := ?_); refine takeA5 5 (some 78) (bl 24 63) hHeld rfl rfl (h := ?_); refine pureA 6 (some 79) (bl 24 127) rfl rfl (h := ?_); refine pureA 7 (some 80) (bl 24 255) rfl rfl (h := ?_); refine pureA 8 (some 81) (bl 24 511) rfl rfl (h := ?_); refine pureA 9 (some 82) (bl 24 1023) rfl rfl (h := ?_); refine takeA5 10 (some 83) (bl 24 2047) hHeld rfl rfl (h := ?_); refine pureA 11 (some 84) (bl 24 4095) rfl rfl (h := ?_); refine pureA 12 (some 85) (bl 24 8191) rfl rfl (h := ?_); refine takeA5 13 (some 86) (bl 24 16383) hHeld rfl rfl (h := ?_); refine pureA 14 (some 87) (bl 24 32767) rfl rfl (h := ?_); refine pureA 15 (some 88) (bl 24 65535) rfl rfl (h := ?_); refine takeA5 16 (some 89) (bl 24 131071) hHeld rfl rfl (h := ?_); refine pureA 17 (some 90) (bl 24 262143) rfl rfl (h := ?_); refine takeA5 18 (some 91) (bl 24 524287) hHeld rfl rfl (h := ?_); refine pureA 19 (some 92) (bl 24 1048575) rfl rfl (h := ?_); refine pureA 20 (some 93) (bl 24 2097151) rfl rfl (h := ?_); refine oneA 21 (some 94) (bl 24 4194303) rfl rfl (fun K hK => ?_)
         first
          | refine goesA Tryd.func133 #[.int .i64 (wrap64 ((s : Int) + (x : Int))), .int .i64 (top : Int)] rfl (h := ?_)
          | (refine goesA Tryd.func133 #[.int .i64 (IntKind.i64.wrap ((s : Int) + (x : Int))), .int .i64 (top : Int)] rfl (h := ?_); rw [show IntKind.i64.wrap ((s : Int) + (x : Int)) = wrap64 ((s : Int) + (x : Int)) from i64_w _])
         refine (spec_l00Min.calls _ _ (s' : Int) w3 HF.out).mono ?_; rintro e w4 ⟨rfl, hd4⟩; refine ⟨_, rfl, ?_⟩; obtain ⟨m4, hw4⟩ := hd4.out; have hb4 := pw_below_drewN (Below.refl w3.heap.size w3) m4; rw [← hw4] at hb4; have HSp4 := am (HSp3.out.below hb4); have HB4 := am (below_then HB3.out HB3.out.size hb4); have HA4 := am (below_then HBA.out HBA.out.size hb4); refine hK.out _ _ (HXX.out _ HA4.out) (fun hHeld2 => ?_); clear hK K hw4 hb4 hd4 HSp3 HB3 hS hHeld HBA; refine normA (h := ?_); refine pureA 22 (some 95) (bl 24 8388607) rfl rfl (h := ?_); refine last_ (i := 23) (N := none) (bl 24 16777215) rfl rfl (by kernel_rfl) (by decide) (fun K hK => ?_); have z0 : w4.cell? ⟨gn, i, none⟩ = some (.int .i64 (s : Int)) := hHeld2.1
         have f0 : w4.frozen? ⟨gn, i, none⟩ = false := by
          obtain ⟨gB, cB, hvB, -, hfB⟩ := HSp4.out.int 2 rfl (i : Int) (by omega) (by rw [List.length_set, fillR_len (by have := HI.out; omega)]; have := HI.out; omega); simp only [Value.slice.injEq, Option.some.injEq, Addr.mk.injEq, and_true, true_and, Int.toNat_natCast] at hvB hfB; rw [hvB.1]; exact hfB
         have HBs := am (HB4.out.setCell (p := ⟨gn, i, none⟩) (Kd.R_base (HSp4.out.get (i := 2) rfl) gn rfl) (.int .i64 (s' : Int))); have HSs := am (HSp4.out.setInt 2 rfl (i : Int) (s' : Int) rfl); simp only [List.set_cons_succ, List.set_cons_zero, Int.toNat_natCast, HSET.out] at HSs; refine skip_ (w1 := w4.setCell ⟨gn, i, none⟩ (.int .i64 (s' : Int))) (by rfl) rfl ?_ ?_
         ·go_simp
         refine hK.out _ _ ?_; clear hK K z0 f0 hHeld2; refine done_ (by kernel_rfl) ?_; clear HSp4 HB4
         generalize w4.setCell _ _ = w7 at HSs HBs ⊢
         go_wp2; go_roundg k3
         case measure => omega
         case rel => exact ⟨j + 1, by go_num, ⟨by have := HK3.out; omega⟩, HBs, ⟨by have h_ := HSs.out; rw [← HGS.out] at h_; exact h_⟩⟩
  | succ k1 =>
   (have hi : i < ac.length := by have := HK.out; omega); have c1 : decide ((i : Int) < (ac.length : Int)) = true := decide_eq_true (by omega); have c2 : decide (i < ac.length) = true := decide_eq_true (by omega); obtain ⟨ad, ea, hx⟩ := Kd.at_bool (Kd.C_below HA.out HB.out) (i : Int) (by omega) (by omega); subst ea; simp only [Int.toNat_natCast] at hx; have p0 : (i < ac.length) = True := eq_true hi; (have hil : i < 2000000 := by have := HC.out.2.1; omega); obtain ⟨gA, cA, hvA, hcA, hfA⟩ := HSp.out.int 0 rfl (i : Int) (by omega) (by rw [fillR_len (by omega)]; omega); simp only [Value.slice.injEq, Option.some.injEq, Addr.mk.injEq, and_true, true_and, Int.toNat_natCast] at hvA hcA hfA; obtain ⟨hv1, hv2, hv3⟩ := hvA; subst hv1; subst hv3; clear hv2; have HBs := am (HB.out.setCell (p := ⟨g7, i, none⟩) (Kd.R_base (HSp.out.get (i := 0) rfl) g7 rfl) (.int .i64 1)); have HSs := am (HSp.out.setInt 0 rfl (i : Int) 1 rfl); simp only [List.set_cons_zero, Int.toNat_natCast] at HSs; by_cases hb : rdOf false ac (i : Int) = true
   ·(have hw1 : waysF top W ac ns 0 i = 1 := by unfold waysF cntC; rw [if_pos hb]; rfl); have HSn : Aside0 (Sep (fun _ => 1) (wr.setCell ⟨g7, i, none⟩ (.int .i64 1)) [(1, rowP (Kd.int .i64) 2 w.heap.size (.slice (some ⟨g7, 0, none⟩) ac.length c7) (fillR ac.length (i + 1) (waysF top W ac ns 0)))]) := ⟨by have h_ := HSs.out; rw [← fillR_set hi, hw1]; exact h_⟩; rw [hb] at hx; clear HSs HB HSp hw1 hb; go_wp2; go_roundg k1
    case measure => omega
    case rel => exact ⟨i + 1, by go_num, ⟨by have := HK.out; omega⟩, HBs, HSn⟩
   ·(have hw1 : waysF top W ac ns 0 i = 0 := by unfold waysF cntC; rw [if_neg hb]; rfl); have HSn : Aside0 (Sep (fun _ => 1) wr [(1, rowP (Kd.int .i64) 2 w.heap.size (.slice (some ⟨g7, 0, none⟩) ac.length c7) (fillR ac.length (i + 1) (waysF top W ac ns 0)))]) := ⟨by have h_ := HSp.out; rw [← fillR_skip hi _ hw1]; exact h_⟩; rw [Bool.not_eq_true] at hb; rw [hb] at hx; clear HSs HBs HSp hw1 hb; go_wp2; go_roundg k1
    case measure => omega
    case rel => exact ⟨i + 1, by go_num, ⟨by have := HK.out; omega⟩, HB, HSn⟩
end Go.Proofs.YtelicdmaohllgaaDoor.X
namespace Go.Proofs.YtelicdmaohllgaaDoor.X
set_option maxHeartbeats 16000000
set_option maxRecDepth 100000
open Go.RowKit Go.Proofs.YtelicdmaohllgaaDoorW.PrintWords Go.Proofs.YtelicdmaohllgaaDoorW.PrintLast Go.Proofs.YtelicdmaohllgaaDoorW.PrintMore
attribute [local go_sem] max2_int min2_int max_two min_two max_three min_three max_four min_four
set_option linter.unusedVariables false
set_option linter.unusedSimpArgs false
def waysQ (l2 : List Bool) (l3 : List (List Int)) (a1 a2 : Int) : Prop := TableOK (l3.getD 0 []).length l2.length l3 ∧ 0 < l2.length ∧ l2.length ≤ 2000000 ∧ (l3.getD 0 []).length ≤ 1000 ∧ 0 ≤ a1 ∧ a1 ≤ 5000000 ∧ 1 ≤ a2 ∧ a2 ≤ 1152921504606846976
instance tableDecW (W n : Nat) (ns : List (List Int)) : Decidable (TableOK W n ns) := by unfold TableOK; infer_instance
instance waysDec (l2 : List Bool) (l3 : List (List Int)) (a1 a2 : Int) : Decidable (waysQ l2 l3 a1 a2) := by unfold waysQ; infer_instance
def spec_l01Ways.f (k : Nat) (s0_0 : Int) (s0_1 : Int) (s0_2 : List Bool) (s0_3 : List (List Int)) (a1 : Int) (a2 : Int) : Option ((List (List Int)) × Int × Int) := if waysQ s0_2 s0_3 a1 a2 then some (tabN (a1.toNat + 1) s0_2.length (waysF a2.toNat (s0_3.getD 0 []).length s0_2 s0_3), s0_0, s0_1) else none
theorem spec_l01Ways.same (k : Nat) (pq : Addr) (s0_0 : Int) (s0_1 : Int) (s0_2 : List Bool) (s0_3 : List (List Int)) (A2 : Option Addr) (c2 : Nat) (A3 : Option Addr) (c3 : Nat) (a1 a2 : Int) (r1 : List (List Int)) (r2 : Int) (r3 : Int) (w : World) (hm2 : w.cell? ⟨pq.block, pq.off + 2, none⟩ = some (.slice A2 s0_2.length c2)) (hm3 : w.cell? ⟨pq.block, pq.off + 3, none⟩ = some (.slice A3 s0_3.length c3)) (hC2 : Kd.C Kd.bool w A2 s0_2.length s0_2) (hC3 : Kd.C (Kd.slice 2 (Kd.int .i64)) w A3 s0_3.length s0_3) (h : spec_l01Ways.f k s0_0 s0_1 s0_2 s0_3 a1 a2 = some (r1, r2, r3)) :
  Calls Tryd.prog 84 #[.pointer (some pq), .int .i64 a1, .int .i64 a2] w (fun e w' => ∃ v, e = .returned v ∧ Kd.S (Kd.slice 2 (Kd.int .i64)) 25 w' w.heap.size (fun _ => True) v r1 ∧ Below w.heap.size w w') ∧ r2 = s0_0 ∧ r3 = s0_1 := by
 unfold spec_l01Ways.f at h; by_cases hq : waysQ s0_2 s0_3 a1 a2
 case neg => rw [if_neg hq] at h; cases h
 rw [if_pos hq] at h; simp only [Option.some.injEq, Prod.mk.injEq] at h; obtain ⟨rfl, rfl, rfl⟩ := h; obtain ⟨p1, p2, p3, p4, p5, p6, p7, p8⟩ := hq; have h2 := ways_calls w pq A2 c2 s0_2 A3 c3 s0_3 hm2 hm3 hC2 hC3 (L := a1.toNat) (top := a2.toNat) p1 p2 p3 p4 (by omega) (by omega) (by omega); rw [Int.toNat_of_nonneg p5, Int.toNat_of_nonneg (show (0 : Int) ≤ a2 by omega)] at h2; exact ⟨h2, rfl, rfl⟩
theorem spec_l01Ways.atcalls (k : Nat) (p0 : Addr) (s0_0 : Int) (s0_1 : Int) (s0_2 : List Bool) (s0_3 : List (List Int)) (a1 : Int) (a2 : Int) (r1 : List (List Int)) (r2 : Int) (r3 : Int) (w0 w : World) (hI : IsP38 w0 w p0 s0_0 s0_1 s0_2 s0_3) (hB : Below w0.heap.size w0 w) (h : spec_l01Ways.f k s0_0 s0_1 s0_2 s0_3 a1 a2 = some (r1, r2, r3)) :
  Calls Tryd.prog 84 #[.pointer (some p0), .int .i64 a1, .int .i64 a2] w fun e w' => ∃ v0_ : Value, e = .returned (v0_) ∧ Kd.S (Kd.slice 2 (Kd.int .i64)) 25 w' w.heap.size (fun _ => True) v0_ r1 ∧ IsP38 w0 w' p0 r2 r3 s0_2 s0_3 ∧ Below w0.heap.size w0 w' ∧ KeepBut w w' p0.block none := by
 obtain ⟨A2, c2, A3, c3, h0, h1, h2, h3, hC2, hC3⟩ := hI; obtain ⟨hcall, rfl, rfl⟩ := spec_l01Ways.same k p0 s0_0 s0_1 s0_2 s0_3 A2 c2 A3 c3 a1 a2 r1 r2 r3 w h2 h3 (Kd.C_below hC2 hB) (Kd.C_below hC3 hB) h; refine hcall.mono ?_; rintro e w' ⟨v, rfl, hS, hbl⟩; exact ⟨v, rfl, hS, ⟨A2, c2, A3, c3, pw_cell_below hbl h0, pw_cell_below hbl h1, pw_cell_below hbl h2, pw_cell_below hbl h3, hC2, hC3⟩, below_then hB hB.size hbl, ⟨hbl.size, fun k hk _ _ => hbl.block k hk⟩⟩
def spec_l01Ways_v.f (k : Nat) (a0 : Int) (a1 : Int) (l2 : List Bool) (l3 : List (List Int)) (b1 b2 : Int) : Option (List (List Int)) := (spec_l01Ways.f k a0 a1 l2 l3 b1 b2).bind fun b => some b.1
theorem spec_l01Ways_v.calls (k : Nat) {g : Nat} (a0 : Int) (a1 : Int) (A2 : Option Addr) (c2 : Nat) (l2 : List Bool) (A3 : Option Addr) (c3 : Nat) (l3 : List (List Int)) (b1 b2 : Int) (r : List (List Int)) (w : World) (hbox : w.heap[g]? = some (.cells #[.int .i64 a0, .int .i64 a1, .slice A2 l2.length c2, .slice A3 l3.length c3] 38 (0, 0))) (hr2 : Kd.C Kd.bool w A2 l2.length l2) (hc2 : l2.length ≤ c2) (hr3 : Kd.C (Kd.slice 2 (Kd.int .i64)) w A3 l3.length l3) (hc3 : l3.length ≤ c3) (h : spec_l01Ways_v.f k a0 a1 l2 l3 b1 b2 = some r) :
  Calls Tryd.prog 84 #[.pointer (some ⟨g, 0, none⟩), .int .i64 b1, .int .i64 b2] w fun e w' => ∃ v0_ : Value, e = .returned (v0_) ∧ Kd.S (Kd.slice 2 (Kd.int .i64)) 25 w' w.heap.size (fun _ => True) v0_ r ∧ Below w.heap.size w w' := by
 unfold spec_l01Ways_v.f at h; obtain ⟨⟨p1, p2, p3⟩, h1, h2⟩ := oB h; obtain rfl := Option.some.inj h2; exact (spec_l01Ways.same k ⟨g, 0, none⟩ a0 a1 l2 l3 A2 c2 A3 c3 b1 b2 _ _ _ w ((blk_cell hbox 2).trans rfl) ((blk_cell hbox 3).trans rfl) hr2 hr3 h1).1
end Go.Proofs.YtelicdmaohllgaaDoor.X
