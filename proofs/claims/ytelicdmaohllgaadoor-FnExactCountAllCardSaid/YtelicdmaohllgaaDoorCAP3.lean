import Derived.Test.YtelicdmaohllgaaDoorCAP2
import Derived.Carry
import Derived.Outline
namespace Go.Proofs.YtelicdmaohllgaaDoor.X
set_option maxHeartbeats 16000000
set_option maxRecDepth 100000
open Go.RowKit Go.Proofs.YtelicdmaohllgaaDoorW.PrintWords Go.Proofs.YtelicdmaohllgaaDoorW.PrintLast Go.Proofs.YtelicdmaohllgaaDoorW.PrintMore
attribute [local go_sem] max2_int min2_int max_two min_two max_three min_three max_four min_four
set_option linter.unusedVariables false
set_option linter.unusedSimpArgs false
def laws_eqInt64SS.l0 : Nat → List (List Int) → List (List Int) → Int → Option (Bool)
 | 0, _, _, _ => none
 | k + 1, x0, x1, x5 => if x5 < (x0.length : Int) then (if 0 ≤ x5 then (if x5 < (x1.length : Int) then ((laws_eqInt64S.f k (rd_L5 x0 x5) (rd_L5 x1 x5)).bind fun t382 => (if t382 = true then (laws_eqInt64SS.l0 k x0 x1 (wrap64 (x5 + 1))) else (some false))) else (none)) else (none)) else (some true)
def laws_eqInt64SS.f (k : Nat) (l0 : List (List Int)) (l1 : List (List Int)) : Option (Bool) := if (l0.length : Int) = (l1.length : Int) then (laws_eqInt64SS.l0 k l0 l1 0) else (some false)
theorem laws_eqInt64SS.calls (k : Nat) (A0 : Option Addr) (c0 : Nat) (l0 : List (List Int)) (A1 : Option Addr) (c1 : Nat) (l1 : List (List Int)) (r : Bool) (w : World) (hr0 : Kd.C (Kd.slice 2 (Kd.int .i64)) w A0 l0.length l0) (hc0 : l0.length ≤ c0) (hr1 : Kd.C (Kd.slice 2 (Kd.int .i64)) w A1 l1.length l1) (hc1 : l1.length ≤ c1) (h : laws_eqInt64SS.f k l0 l1 = some r) :
  Calls Tryd.prog 70 #[.slice A0 l0.length c0, .slice A1 l1.length c1] w fun e w' => e = .returned (.bool r) ∧ Drawn0 w w' := by
 have HR0 := am hr0; have HC0 := am hc0; clear hr0 hc0; have HR1 := am hr1; have HC1 := am hc1; clear hr1 hc1; have H : (if (l0.length : Int) = (l1.length : Int) then (laws_eqInt64SS.l0 k l0 l1 0) else (some false)) = some r := h; clear h; by_cases c3 : (l0.length : Int) = (l1.length : Int)
 ·rw [if_pos c3] at H; have c3b0 : ((l0.length : Int) == (l1.length : Int)) = true := beq_iff_eq.mpr c3; have c3b1 : ((l0.length : Int) != (l1.length : Int)) = false := bne_eq_false_iff_eq.mpr c3
  have c3b2 : (l0.length == l1.length) = true := by first | simpa using c3 | (simp at c3 ⊢; omega)
  clear c3; have H' := am H; clear H; go_enter Tryd.func70, Tryd.ntmps70; go_wp2
  repeat (go_quiet (fail); try go_wp2)
  go_loopg [5] k (fun kq v5 w' => ∃ (x5_1 : Int), v5 = .int .i64 x5_1 ∧ Aside0 (laws_eqInt64SS.l0 kq l0 l1 x5_1 = some r) ∧ Aside0 (kq ≤ k) ∧ Drawn0 w w')
  case atStart => exact ⟨(0), (tF), H', ⟨Nat.le_refl _⟩, tD⟩
  case round =>
   clear H'
   try clear c1; try clear p2; try clear c3; try clear c3b0; try clear c3b1; try clear c3b2
   obtain ⟨x5_1, rfl, HA, HK1, ⟨m1, rfl⟩⟩ := hrel
   cases gk with
   | zero => exact absurd HA.out (by simp [laws_eqInt64SS.l0])
   | succ k1 =>
    have H := HA.out; clear HA; simp only [laws_eqInt64SS.l0] at H; by_cases c4 : x5_1 < (l0.length : Int)
    ·rw [if_pos c4] at H; have c4b0 := decide_eq_true c4; clear c4; by_cases c5 : 0 ≤ x5_1
     ·rw [if_pos c5] at H; have c5b0 := decide_eq_true c5; clear c5; by_cases c6 : x5_1 < (l1.length : Int)
      ·rw [if_pos c6] at H; have c6b0 := decide_eq_true c6; clear c6; obtain ⟨t382, A70, H⟩ := oB H; replace H : (if t382 = true then (laws_eqInt64SS.l0 k1 l0 l1 (wrap64 (x5_1 + 1))) else (some false)) = some r := H; have A7 := am A70; clear A70; by_cases c8 : t382 = true
       ·subst c8; (have H1 : (laws_eqInt64SS.l0 k1 l0 l1 (wrap64 (x5_1 + 1))) = some r := by rw [if_pos rfl] at H; exact H); clear H; have H := H1; clear H1; have H' := am H; clear H; have p380 : 0 ≤ (x5_1 : Int) := oA; have q380 : x5_1 < (l0.length : Int) := oA; obtain ⟨ad380, A380_0, c380_0, e380, hx380_0, hl380_0, hi380_0⟩ := at_L5 HR0.out x5_1 p380 q380; cases e380; have HR380_0 := am hi380_0; have HC380_0 := am hl380_0; clear hi380_0 hl380_0; replace p380 := eq_true p380; replace q380 := eq_true q380; have p381 : 0 ≤ (x5_1 : Int) := oA; have q381 : x5_1 < (l1.length : Int) := oA; obtain ⟨ad381, A381_0, c381_0, e381, hx381_0, hl381_0, hi381_0⟩ := at_L5 HR1.out x5_1 p381 q381; cases e381; have HR381_0 := am hi381_0; have HC381_0 := am hl381_0; clear hi381_0 hl381_0; replace p381 := eq_true p381; replace q381 := eq_true q381
        go_wp2_with (first | (go_at_call 20; (with_reducible refine (laws_eqInt64S.calls k1 _ _ (rd_L5 l0 x5_1) _ _ (rd_L5 l1 x5_1) true _ ?side1 ?side2 ?side3 ?side4 A7.out).mono ?_); (case side1 => exact tC HR380_0.out); (case side2 => exact HC380_0.out); (case side3 => exact tC HR381_0.out); (case side4 => exact HC381_0.out); rintro e w' ⟨rfl, ⟨nd, rfl⟩⟩; (try first | exact ⟨rfl, _, World.drewN_drewN _ _ _⟩ | exact ⟨rfl, _, Eq.trans (World.drewN_drewN _ _ _) (congrArg (World.drewN _) (Nat.add_assoc _ _ _))⟩)) | go_quiet (first | (go_at_call 20; (with_reducible refine (laws_eqInt64S.calls k1 _ _ (rd_L5 l0 x5_1) _ _ (rd_L5 l1 x5_1) true _ ?side1 ?side2 ?side3 ?side4 A7.out).mono ?_); (case side1 => exact tC HR380_0.out); (case side2 => exact HC380_0.out); (case side3 => exact tC HR381_0.out); (case side4 => exact HC381_0.out); rintro e w' ⟨rfl, ⟨nd, rfl⟩⟩; (try first | exact ⟨rfl, _, World.drewN_drewN _ _ _⟩ | exact ⟨rfl, _, Eq.trans (World.drewN_drewN _ _ _) (congrArg (World.drewN _) (Nat.add_assoc _ _ _))⟩))))
        go_roundg k1
        case measure => have := HK1.out; omega
        case rel => exact ⟨(wrap64 (x5_1 + 1)), (tF), H', ⟨by have := HK1.out; omega⟩, tD⟩
       ·replace c8 := Bool.eq_false_iff.mpr c8; subst c8; (have H1 : (some false) = some r := by rw [if_neg (show ¬ (false = true) by decide)] at H; exact H); clear H; have H := H1; clear H1; obtain rfl := Option.some.inj H; have p380 : 0 ≤ (x5_1 : Int) := oA; have q380 : x5_1 < (l0.length : Int) := oA; obtain ⟨ad380, A380_0, c380_0, e380, hx380_0, hl380_0, hi380_0⟩ := at_L5 HR0.out x5_1 p380 q380; cases e380; have HR380_0 := am hi380_0; have HC380_0 := am hl380_0; clear hi380_0 hl380_0; replace p380 := eq_true p380; replace q380 := eq_true q380; have p381 : 0 ≤ (x5_1 : Int) := oA; have q381 : x5_1 < (l1.length : Int) := oA; obtain ⟨ad381, A381_0, c381_0, e381, hx381_0, hl381_0, hi381_0⟩ := at_L5 HR1.out x5_1 p381 q381; cases e381; have HR381_0 := am hi381_0; have HC381_0 := am hl381_0; clear hi381_0 hl381_0; replace p381 := eq_true p381; replace q381 := eq_true q381
        go_wp2_with (first | (go_at_call 20; (with_reducible refine (laws_eqInt64S.calls k1 _ _ (rd_L5 l0 x5_1) _ _ (rd_L5 l1 x5_1) false _ ?side1 ?side2 ?side3 ?side4 A7.out).mono ?_); (case side1 => exact tC HR380_0.out); (case side2 => exact HC380_0.out); (case side3 => exact tC HR381_0.out); (case side4 => exact HC381_0.out); rintro e w' ⟨rfl, ⟨nd, rfl⟩⟩; (try first | exact ⟨rfl, _, World.drewN_drewN _ _ _⟩ | exact ⟨rfl, _, Eq.trans (World.drewN_drewN _ _ _) (congrArg (World.drewN _) (Nat.add_assoc _ _ _))⟩)) | go_quiet (first | (go_at_call 20; (with_reducible refine (laws_eqInt64S.calls k1 _ _ (rd_L5 l0 x5_1) _ _ (rd_L5 l1 x5_1) false _ ?side1 ?side2 ?side3 ?side4 A7.out).mono ?_); (case side1 => exact tC HR380_0.out); (case side2 => exact HC380_0.out); (case side3 => exact tC HR381_0.out); (case side4 => exact HC381_0.out); rintro e w' ⟨rfl, ⟨nd, rfl⟩⟩; (try first | exact ⟨rfl, _, World.drewN_drewN _ _ _⟩ | exact ⟨rfl, _, Eq.trans (World.drewN_drewN _ _ _) (congrArg (World.drewN _) (Nat.add_assoc _ _ _))⟩))))
        go_ret; exact ⟨tF, tD⟩
      ·rw [if_neg c6] at H; exact absurd H (by simp)
     ·rw [if_neg c5] at H; exact absurd H (by simp)
    ·rw [if_neg c4] at H; have c4b0 := decide_eq_false c4; clear c4; obtain rfl := Option.some.inj H; go_wp2
     repeat (go_quiet (fail); try go_wp2)
     go_ret; exact ⟨tF, tD⟩
 ·rw [if_neg c3] at H; have c3b0 : ((l0.length : Int) == (l1.length : Int)) = false := beq_eq_false_iff_ne.mpr c3; have c3b1 : ((l0.length : Int) != (l1.length : Int)) = true := bne_iff_ne.mpr c3
  have c3b2 : (l0.length == l1.length) = false := by first | simpa using c3 | (simp at c3 ⊢; omega)
  obtain rfl := Option.some.inj H; go_enter Tryd.func70, Tryd.ntmps70; go_wp2
  repeat (go_quiet (fail); try go_wp2)
  go_ret; exact ⟨tF, tD⟩
def laws_eqRelation.f (k : Nat) (a0_0 : Int) (a0_1 : Int) (l0_2 : List Bool) (l0_3 : List (List Int)) (a1_0 : Int) (a1_1 : Int) (l1_2 : List Bool) (l1_3 : List (List Int)) : Option (Bool) := if a0_0 = a1_0 then (if a0_1 = a1_1 then ((laws_eqBoolS.f k l0_2 l1_2).bind fun t385 => (if t385 = true then ((laws_eqInt64SS.f k l0_3 l1_3).bind fun t386 => (if t386 = true then (some true) else (some false))) else (some false))) else (some false)) else (some false)
theorem laws_eqRelation.calls (k : Nat) (a0_0 : Int) (a0_1 : Int) (A0_2 : Option Addr) (c0_2 : Nat) (l0_2 : List Bool) (A0_3 : Option Addr) (c0_3 : Nat) (l0_3 : List (List Int)) (a1_0 : Int) (a1_1 : Int) (A1_2 : Option Addr) (c1_2 : Nat) (l1_2 : List Bool) (A1_3 : Option Addr) (c1_3 : Nat) (l1_3 : List (List Int)) (r : Bool) (w : World) (hr0_2 : Kd.C Kd.bool w A0_2 l0_2.length l0_2) (hc0_2 : l0_2.length ≤ c0_2) (hr0_3 : Kd.C (Kd.slice 2 (Kd.int .i64)) w A0_3 l0_3.length l0_3) (hc0_3 : l0_3.length ≤ c0_3) (hr1_2 : Kd.C Kd.bool w A1_2 l1_2.length l1_2) (hc1_2 : l1_2.length ≤ c1_2) (hr1_3 : Kd.C (Kd.slice 2 (Kd.int .i64)) w A1_3 l1_3.length l1_3) (hc1_3 : l1_3.length ≤ c1_3) (h : laws_eqRelation.f k a0_0 a0_1 l0_2 l0_3 a1_0 a1_1 l1_2 l1_3 = some r) :
  Calls Tryd.prog 29 #[.agg #[.int .i64 a0_0, .int .i64 a0_1, .slice A0_2 l0_2.length c0_2, .slice A0_3 l0_3.length c0_3], .agg #[.int .i64 a1_0, .int .i64 a1_1, .slice A1_2 l1_2.length c1_2, .slice A1_3 l1_3.length c1_3]] w fun e w' => e = .returned (.bool r) ∧ Below w.heap.size w w' := by
 have hu38 := Tryd.underlying38; have HR0_2 := am hr0_2; have HC0_2 := am hc0_2; clear hr0_2 hc0_2; have HR0_3 := am hr0_3; have HC0_3 := am hc0_3; clear hr0_3 hc0_3; have HR1_2 := am hr1_2; have HC1_2 := am hc1_2; clear hr1_2 hc1_2; have HR1_3 := am hr1_3; have HC1_3 := am hc1_3; clear hr1_3 hc1_3; have HB := am (Below.refl w.heap.size w); have H : (if a0_0 = a1_0 then (if a0_1 = a1_1 then ((laws_eqBoolS.f k l0_2 l1_2).bind fun t385 => (if t385 = true then ((laws_eqInt64SS.f k l0_3 l1_3).bind fun t386 => (if t386 = true then (some true) else (some false))) else (some false))) else (some false)) else (some false)) = some r := h; clear h; by_cases c3 : a0_0 = a1_0
 ·rw [if_pos c3] at H; have c3b0 : (a0_0 == a1_0) = true := beq_iff_eq.mpr c3; have c3b1 : (a0_0 != a1_0) = false := bne_eq_false_iff_eq.mpr c3; clear c3; by_cases c4 : a0_1 = a1_1
  ·rw [if_pos c4] at H; have c4b0 : (a0_1 == a1_1) = true := beq_iff_eq.mpr c4; have c4b1 : (a0_1 != a1_1) = false := bne_eq_false_iff_eq.mpr c4; clear c4; obtain ⟨t385, A50, H⟩ := oB H; replace H : (if t385 = true then ((laws_eqInt64SS.f k l0_3 l1_3).bind fun t386 => (if t386 = true then (some true) else (some false))) else (some false)) = some r := H; have A5 := am A50; clear A50; by_cases c6 : t385 = true
   ·subst c6; (have H1 : ((laws_eqInt64SS.f k l0_3 l1_3).bind fun t386 => (if t386 = true then (some true) else (some false))) = some r := by rw [if_pos rfl] at H; exact H); clear H; have H := H1; clear H1; obtain ⟨t386, A70, H⟩ := oB H; replace H : (if t386 = true then (some true) else (some false)) = some r := H; have A7 := am A70; clear A70; by_cases c8 : t386 = true
    ·subst c8; (have H1 : (some true) = some r := by rw [if_pos rfl] at H; exact H); clear H; have H := H1; clear H1; obtain rfl := Option.some.inj H; go_enter Tryd.func29, Tryd.ntmps29
     go_wp2_with (first | ((with_reducible refine gate_dst (N := 2) rfl ?_); refine boxA 2 #[.int .i64 a0_0, .int .i64 a0_1, .slice A0_2 l0_2.length c0_2, .slice A0_3 l0_3.length c0_3] 38 rfl rfl (h := ?_); intro gb383 hg w9 hbox hb; have BK383 := am (hbox); have GW383 := am ((by rw [hg]; exact (below_size (tB)) : w.heap.size ≤ gb383)); have GE383 := am ((by rw [hg]; exact (below_size (tB)) : w.heap.size ≤ gb383)); replace HB := am (below_step (tB) hb); clear hb hbox hg) | ((with_reducible refine gate_dst (N := 3) rfl ?_); refine boxA 3 #[.int .i64 a1_0, .int .i64 a1_1, .slice A1_2 l1_2.length c1_2, .slice A1_3 l1_3.length c1_3] 38 rfl rfl (h := ?_); intro gb384 hg w10 hbox hb; have BK384 := am (hbox); have GW384 := am ((by rw [hg]; exact (below_size (tB)) : w.heap.size ≤ gb384)); have GE384 := am ((by rw [hg]; exact (below_size (tB)) : w.heap.size ≤ gb384)); have NB383_384 := am ((by rw [hg]; exact Nat.ne_of_lt (bkl BK383.out) : gb383 ≠ gb384)); have NB384_383 := am ((by rw [hg]; exact Nat.ne_of_gt (bkl BK383.out) : gb384 ≠ gb383)); replace BK383 := am (bkb BK383.out hb); replace HB := am (below_step (tB) hb); clear hb hbox hg; have hnb11 := NB383_384.out; have hnc11 := NB384_383.out; obtain ⟨hcz12_0, hcz12_1, hcz12_2, hcz12_3⟩ := bc4 BK383.out; have hfz12_0 := blk_frozen BK383.out 0; have hfz12_1 := blk_frozen BK383.out 1; have hfz12_2 := blk_frozen BK383.out 2; have hfz12_3 := blk_frozen BK383.out 3; obtain ⟨hcz13_0, hcz13_1, hcz13_2, hcz13_3⟩ := bc4 BK384.out; have hfz13_0 := blk_frozen BK384.out 0; have hfz13_1 := blk_frozen BK384.out 1; have hfz13_2 := blk_frozen BK384.out 2; have hfz13_3 := blk_frozen BK384.out 3) | ((with_reducible refine gate_callee (f := 69) rfl ?_); refine goesLA (some 19) Tryd.func69 #[.slice A0_2 l0_2.length c0_2, .slice A1_2 l1_2.length c1_2] rfl rfl rfl (h := ?_); (with_reducible refine (laws_eqBoolS.calls k _ _ l0_2 _ _ l1_2 true _ ?side1 ?side2 ?side3 ?side4 A5.out).mono ?_); (case side1 => exact tC (Kd.C_below HR0_2.out HB.out)); (case side2 => exact HC0_2.out); (case side3 => exact tC (Kd.C_below HR1_2.out HB.out)); (case side4 => exact HC1_2.out); rintro e w' ⟨rfl, ⟨nd, rfl⟩⟩; refine ⟨_, rfl, ?_⟩) | ((with_reducible refine gate_callee (f := 70) rfl ?_); refine goesLA (some 25) Tryd.func70 #[.slice A0_3 l0_3.length c0_3, .slice A1_3 l1_3.length c1_3] rfl rfl rfl (h := ?_); (with_reducible refine (laws_eqInt64SS.calls k _ _ l0_3 _ _ l1_3 true _ ?side1 ?side2 ?side3 ?side4 A7.out).mono ?_); (case side1 => exact tC (Kd.C_below HR0_3.out (tB))); (case side2 => exact HC0_3.out); (case side3 => exact tC (Kd.C_below HR1_3.out (tB))); (case side4 => exact HC1_3.out); rintro e w' ⟨rfl, ⟨nd, rfl⟩⟩; refine ⟨_, rfl, ?_⟩))
     go_ret; exact ⟨tE, tB⟩
    ·replace c8 := Bool.eq_false_iff.mpr c8; subst c8; (have H1 : (some false) = some r := by rw [if_neg (show ¬ (false = true) by decide)] at H; exact H); clear H; have H := H1; clear H1; obtain rfl := Option.some.inj H; go_enter Tryd.func29, Tryd.ntmps29
     go_wp2_with (first | ((with_reducible refine gate_dst (N := 2) rfl ?_); refine boxA 2 #[.int .i64 a0_0, .int .i64 a0_1, .slice A0_2 l0_2.length c0_2, .slice A0_3 l0_3.length c0_3] 38 rfl rfl (h := ?_); intro gb383 hg w14 hbox hb; have BK383 := am (hbox); have GW383 := am ((by rw [hg]; exact (below_size (tB)) : w.heap.size ≤ gb383)); have GE383 := am ((by rw [hg]; exact (below_size (tB)) : w.heap.size ≤ gb383)); replace HB := am (below_step (tB) hb); clear hb hbox hg) | ((with_reducible refine gate_dst (N := 3) rfl ?_); refine boxA 3 #[.int .i64 a1_0, .int .i64 a1_1, .slice A1_2 l1_2.length c1_2, .slice A1_3 l1_3.length c1_3] 38 rfl rfl (h := ?_); intro gb384 hg w15 hbox hb; have BK384 := am (hbox); have GW384 := am ((by rw [hg]; exact (below_size (tB)) : w.heap.size ≤ gb384)); have GE384 := am ((by rw [hg]; exact (below_size (tB)) : w.heap.size ≤ gb384)); have NB383_384 := am ((by rw [hg]; exact Nat.ne_of_lt (bkl BK383.out) : gb383 ≠ gb384)); have NB384_383 := am ((by rw [hg]; exact Nat.ne_of_gt (bkl BK383.out) : gb384 ≠ gb383)); replace BK383 := am (bkb BK383.out hb); replace HB := am (below_step (tB) hb); clear hb hbox hg; have hnb16 := NB383_384.out; have hnc16 := NB384_383.out; obtain ⟨hcz17_0, hcz17_1, hcz17_2, hcz17_3⟩ := bc4 BK383.out; have hfz17_0 := blk_frozen BK383.out 0; have hfz17_1 := blk_frozen BK383.out 1; have hfz17_2 := blk_frozen BK383.out 2; have hfz17_3 := blk_frozen BK383.out 3; obtain ⟨hcz18_0, hcz18_1, hcz18_2, hcz18_3⟩ := bc4 BK384.out; have hfz18_0 := blk_frozen BK384.out 0; have hfz18_1 := blk_frozen BK384.out 1; have hfz18_2 := blk_frozen BK384.out 2; have hfz18_3 := blk_frozen BK384.out 3) | ((with_reducible refine gate_callee (f := 69) rfl ?_); refine goesLA (some 19) Tryd.func69 #[.slice A0_2 l0_2.length c0_2, .slice A1_2 l1_2.length c1_2] rfl rfl rfl (h := ?_); (with_reducible refine (laws_eqBoolS.calls k _ _ l0_2 _ _ l1_2 true _ ?side1 ?side2 ?side3 ?side4 A5.out).mono ?_); (case side1 => exact tC (Kd.C_below HR0_2.out HB.out)); (case side2 => exact HC0_2.out); (case side3 => exact tC (Kd.C_below HR1_2.out HB.out)); (case side4 => exact HC1_2.out); rintro e w' ⟨rfl, ⟨nd, rfl⟩⟩; refine ⟨_, rfl, ?_⟩) | ((with_reducible refine gate_callee (f := 70) rfl ?_); refine goesLA (some 25) Tryd.func70 #[.slice A0_3 l0_3.length c0_3, .slice A1_3 l1_3.length c1_3] rfl rfl rfl (h := ?_); (with_reducible refine (laws_eqInt64SS.calls k _ _ l0_3 _ _ l1_3 false _ ?side1 ?side2 ?side3 ?side4 A7.out).mono ?_); (case side1 => exact tC (Kd.C_below HR0_3.out (tB))); (case side2 => exact HC0_3.out); (case side3 => exact tC (Kd.C_below HR1_3.out (tB))); (case side4 => exact HC1_3.out); rintro e w' ⟨rfl, ⟨nd, rfl⟩⟩; refine ⟨_, rfl, ?_⟩))
     go_ret; exact ⟨tE, tB⟩
   ·replace c6 := Bool.eq_false_iff.mpr c6; subst c6; (have H1 : (some false) = some r := by rw [if_neg (show ¬ (false = true) by decide)] at H; exact H); clear H; have H := H1; clear H1; obtain rfl := Option.some.inj H; go_enter Tryd.func29, Tryd.ntmps29
    go_wp2_with (first | ((with_reducible refine gate_dst (N := 2) rfl ?_); refine boxA 2 #[.int .i64 a0_0, .int .i64 a0_1, .slice A0_2 l0_2.length c0_2, .slice A0_3 l0_3.length c0_3] 38 rfl rfl (h := ?_); intro gb383 hg w19 hbox hb; have BK383 := am (hbox); have GW383 := am ((by rw [hg]; exact (below_size (tB)) : w.heap.size ≤ gb383)); have GE383 := am ((by rw [hg]; exact (below_size (tB)) : w.heap.size ≤ gb383)); replace HB := am (below_step (tB) hb); clear hb hbox hg) | ((with_reducible refine gate_dst (N := 3) rfl ?_); refine boxA 3 #[.int .i64 a1_0, .int .i64 a1_1, .slice A1_2 l1_2.length c1_2, .slice A1_3 l1_3.length c1_3] 38 rfl rfl (h := ?_); intro gb384 hg w20 hbox hb; have BK384 := am (hbox); have GW384 := am ((by rw [hg]; exact (below_size (tB)) : w.heap.size ≤ gb384)); have GE384 := am ((by rw [hg]; exact (below_size (tB)) : w.heap.size ≤ gb384)); have NB383_384 := am ((by rw [hg]; exact Nat.ne_of_lt (bkl BK383.out) : gb383 ≠ gb384)); have NB384_383 := am ((by rw [hg]; exact Nat.ne_of_gt (bkl BK383.out) : gb384 ≠ gb383)); replace BK383 := am (bkb BK383.out hb); replace HB := am (below_step (tB) hb); clear hb hbox hg; have hnb21 := NB383_384.out; have hnc21 := NB384_383.out; obtain ⟨hcz22_0, hcz22_1, hcz22_2, hcz22_3⟩ := bc4 BK383.out; have hfz22_0 := blk_frozen BK383.out 0; have hfz22_1 := blk_frozen BK383.out 1; have hfz22_2 := blk_frozen BK383.out 2; have hfz22_3 := blk_frozen BK383.out 3; obtain ⟨hcz23_0, hcz23_1, hcz23_2, hcz23_3⟩ := bc4 BK384.out; have hfz23_0 := blk_frozen BK384.out 0; have hfz23_1 := blk_frozen BK384.out 1; have hfz23_2 := blk_frozen BK384.out 2; have hfz23_3 := blk_frozen BK384.out 3) | ((with_reducible refine gate_callee (f := 69) rfl ?_); refine goesLA (some 19) Tryd.func69 #[.slice A0_2 l0_2.length c0_2, .slice A1_2 l1_2.length c1_2] rfl rfl rfl (h := ?_); (with_reducible refine (laws_eqBoolS.calls k _ _ l0_2 _ _ l1_2 false _ ?side1 ?side2 ?side3 ?side4 A5.out).mono ?_); (case side1 => exact tC (Kd.C_below HR0_2.out HB.out)); (case side2 => exact HC0_2.out); (case side3 => exact tC (Kd.C_below HR1_2.out HB.out)); (case side4 => exact HC1_2.out); rintro e w' ⟨rfl, ⟨nd, rfl⟩⟩; refine ⟨_, rfl, ?_⟩))
    go_ret; exact ⟨tE, tB⟩
  ·rw [if_neg c4] at H; have c4b0 : (a0_1 == a1_1) = false := beq_eq_false_iff_ne.mpr c4; have c4b1 : (a0_1 != a1_1) = true := bne_iff_ne.mpr c4; obtain rfl := Option.some.inj H; go_enter Tryd.func29, Tryd.ntmps29
   go_wp2_with (first | ((with_reducible refine gate_dst (N := 2) rfl ?_); refine boxA 2 #[.int .i64 a0_0, .int .i64 a0_1, .slice A0_2 l0_2.length c0_2, .slice A0_3 l0_3.length c0_3] 38 rfl rfl (h := ?_); intro gb383 hg w24 hbox hb; have BK383 := am (hbox); have GW383 := am ((by rw [hg]; exact (below_size (tB)) : w.heap.size ≤ gb383)); have GE383 := am ((by rw [hg]; exact (below_size (tB)) : w.heap.size ≤ gb383)); replace HB := am (below_step (tB) hb); clear hb hbox hg) | ((with_reducible refine gate_dst (N := 3) rfl ?_); refine boxA 3 #[.int .i64 a1_0, .int .i64 a1_1, .slice A1_2 l1_2.length c1_2, .slice A1_3 l1_3.length c1_3] 38 rfl rfl (h := ?_); intro gb384 hg w25 hbox hb; have BK384 := am (hbox); have GW384 := am ((by rw [hg]; exact (below_size (tB)) : w.heap.size ≤ gb384)); have GE384 := am ((by rw [hg]; exact (below_size (tB)) : w.heap.size ≤ gb384)); have NB383_384 := am ((by rw [hg]; exact Nat.ne_of_lt (bkl BK383.out) : gb383 ≠ gb384)); have NB384_383 := am ((by rw [hg]; exact Nat.ne_of_gt (bkl BK383.out) : gb384 ≠ gb383)); replace BK383 := am (bkb BK383.out hb); replace HB := am (below_step (tB) hb); clear hb hbox hg; have hnb26 := NB383_384.out; have hnc26 := NB384_383.out; obtain ⟨hcz27_0, hcz27_1, hcz27_2, hcz27_3⟩ := bc4 BK383.out; have hfz27_0 := blk_frozen BK383.out 0; have hfz27_1 := blk_frozen BK383.out 1; have hfz27_2 := blk_frozen BK383.out 2; have hfz27_3 := blk_frozen BK383.out 3; obtain ⟨hcz28_0, hcz28_1, hcz28_2, hcz28_3⟩ := bc4 BK384.out; have hfz28_0 := blk_frozen BK384.out 0; have hfz28_1 := blk_frozen BK384.out 1; have hfz28_2 := blk_frozen BK384.out 2; have hfz28_3 := blk_frozen BK384.out 3))
   go_ret; exact ⟨tE, tB⟩
 ·rw [if_neg c3] at H; have c3b0 : (a0_0 == a1_0) = false := beq_eq_false_iff_ne.mpr c3; have c3b1 : (a0_0 != a1_0) = true := bne_iff_ne.mpr c3; obtain rfl := Option.some.inj H; go_enter Tryd.func29, Tryd.ntmps29
  go_wp2_with (first | ((with_reducible refine gate_dst (N := 2) rfl ?_); refine boxA 2 #[.int .i64 a0_0, .int .i64 a0_1, .slice A0_2 l0_2.length c0_2, .slice A0_3 l0_3.length c0_3] 38 rfl rfl (h := ?_); intro gb383 hg w29 hbox hb; have BK383 := am (hbox); have GW383 := am ((by rw [hg]; exact (below_size (tB)) : w.heap.size ≤ gb383)); have GE383 := am ((by rw [hg]; exact (below_size (tB)) : w.heap.size ≤ gb383)); replace HB := am (below_step (tB) hb); clear hb hbox hg) | ((with_reducible refine gate_dst (N := 3) rfl ?_); refine boxA 3 #[.int .i64 a1_0, .int .i64 a1_1, .slice A1_2 l1_2.length c1_2, .slice A1_3 l1_3.length c1_3] 38 rfl rfl (h := ?_); intro gb384 hg w30 hbox hb; have BK384 := am (hbox); have GW384 := am ((by rw [hg]; exact (below_size (tB)) : w.heap.size ≤ gb384)); have GE384 := am ((by rw [hg]; exact (below_size (tB)) : w.heap.size ≤ gb384)); have NB383_384 := am ((by rw [hg]; exact Nat.ne_of_lt (bkl BK383.out) : gb383 ≠ gb384)); have NB384_383 := am ((by rw [hg]; exact Nat.ne_of_gt (bkl BK383.out) : gb384 ≠ gb383)); replace BK383 := am (bkb BK383.out hb); replace HB := am (below_step (tB) hb); clear hb hbox hg; have hnb31 := NB383_384.out; have hnc31 := NB384_383.out; obtain ⟨hcz32_0, hcz32_1, hcz32_2, hcz32_3⟩ := bc4 BK383.out; have hfz32_0 := blk_frozen BK383.out 0; have hfz32_1 := blk_frozen BK383.out 1; have hfz32_2 := blk_frozen BK383.out 2; have hfz32_3 := blk_frozen BK383.out 3; obtain ⟨hcz33_0, hcz33_1, hcz33_2, hcz33_3⟩ := bc4 BK384.out; have hfz33_0 := blk_frozen BK384.out 0; have hfz33_1 := blk_frozen BK384.out 1; have hfz33_2 := blk_frozen BK384.out 2; have hfz33_3 := blk_frozen BK384.out 3))
  go_ret; exact ⟨tE, tB⟩
def spec_l01Power.l0 : Nat → Int → Int → Option (Int)
 | 0, _, _ => none
 | k + 1, x0, x3 => if x0 > 0 then (spec_l01Power.l0 k (wrap64 (x0 - 1)) (wrap64 (3 * x3))) else (some x3)
def spec_l01Power.f (k : Nat) (a0 : Int) : Option (Int) := spec_l01Power.l0 k a0 1
theorem spec_l01Power.mono_l : ∀ k, (∀ y0 y1, LeO (spec_l01Power.l0 k y0 y1) (spec_l01Power.l0 (k + 1) y0 y1))
 | 0 => fun _ _ r h => by simp [spec_l01Power.l0] at h
 | k + 1 => by
  have ih0 := spec_l01Power.mono_l k
  ·intro y0 y1; unfold spec_l01Power.l0
   repeat' first
   | (with_reducible exact ih0 _ _)
   | (with_reducible exact LeO.refl _)
   | (with_reducible exact LeO.none _)
   | (with_reducible refine LeO.ite ?_ ?_)
   | (with_reducible refine LeO.bind ?_ (fun _ => ?_))
   | exact ih0 _ _
   | exact LeO.none _
   | refine LeO.ite ?_ ?_
   | refine LeO.bind ?_ (fun _ => ?_)
theorem spec_l01Power.mono : ∀ a0 k, LeO (spec_l01Power.f k a0) (spec_l01Power.f (k + 1) a0) := by
 intro a0 k; have ih0 := spec_l01Power.mono_l k; unfold spec_l01Power.f
 repeat' first
   | (with_reducible exact ih0 _ _)
   | (with_reducible exact LeO.refl _)
   | (with_reducible exact LeO.none _)
   | (with_reducible refine LeO.ite ?_ ?_)
   | (with_reducible refine LeO.bind ?_ (fun _ => ?_))
   | exact ih0 _ _
   | exact LeO.none _
   | refine LeO.ite ?_ ?_
   | refine LeO.bind ?_ (fun _ => ?_)
theorem spec_l01Power.calls (k : Nat) (a0 : Int) (r : Int) (w : World) (h : spec_l01Power.f k a0 = some r) :
  Calls Tryd.prog 114 #[.int .i64 a0] w fun e w' => e = .returned (.int .i64 r) ∧ Drawn0 w w' := by
 have H : (spec_l01Power.l0 k a0 1) = some r := h; clear h; have H' := am H; clear H; go_enter Tryd.func114, Tryd.ntmps114; go_wp2
 go_loopg [0, 3] k (fun kq v0 v3 w' => ∃ (x0_1 : Int) (x3_1 : Int), v0 = .int .i64 x0_1 ∧ v3 = .int .i64 x3_1 ∧ Aside0 (spec_l01Power.l0 kq x0_1 x3_1 = some r) ∧ Aside0 (kq ≤ k) ∧ Drawn0 w w')
 case atStart => exact ⟨(a0), (1), (tF), (tF), H', ⟨Nat.le_refl _⟩, tD⟩
 case round =>
  clear H'
  try clear c1
  obtain ⟨x0_1, x3_1, rfl, rfl, HA, HK1, ⟨m1, rfl⟩⟩ := hrel
  cases gk with
  | zero => exact absurd HA.out (by simp [spec_l01Power.l0])
  | succ k1 =>
   have H := HA.out; clear HA; simp only [spec_l01Power.l0] at H; by_cases c2 : x0_1 > 0
   ·rw [if_pos c2] at H; have c2b0 : decide (0 < x0_1) = true := decide_eq_true c2; clear c2; have H' := am H; clear H; go_wp2; go_roundg k1
    case measure => have := HK1.out; omega
    case rel => exact ⟨(wrap64 (x0_1 - 1)), (wrap64 (3 * x3_1)), (tF), (tF), H', ⟨by have := HK1.out; omega⟩, tD⟩
   ·rw [if_neg c2] at H; have c2b0 : decide (0 < x0_1) = false := decide_eq_false c2; clear c2; obtain rfl := Option.some.inj H; go_wp2; go_ret; exact ⟨tF, tD⟩
def spec_l01Wide.f (k : Nat) (a0 : Int) : Option (Int) := (spec_l01Power.f k a0).bind fun t211 => (some (wrap64 (t211 - 1)))
theorem spec_l01Wide.mono : ∀ a0 k, LeO (spec_l01Wide.f k a0) (spec_l01Wide.f (k + 1) a0) := by
 intro a0 k; unfold spec_l01Wide.f
 repeat' first
   | (with_reducible exact spec_l01Power.mono _ _)
   | (with_reducible exact LeO.refl _)
   | (with_reducible exact LeO.none _)
   | (with_reducible refine LeO.ite ?_ ?_)
   | (with_reducible refine LeO.bind ?_ (fun _ => ?_))
   | exact spec_l01Power.mono _ _
   | exact LeO.none _
   | refine LeO.ite ?_ ?_
   | refine LeO.bind ?_ (fun _ => ?_)
theorem spec_l01Wide.calls (k : Nat) (a0 : Int) (r : Int) (w : World) (h : spec_l01Wide.f k a0 = some r) :
  Calls Tryd.prog 63 #[.int .i64 a0] w fun e w' => e = .returned (.int .i64 r) ∧ Drawn0 w w' := by
 have H : ((spec_l01Power.f k a0).bind fun t211 => (some (wrap64 (t211 - 1)))) = some r := h; clear h; obtain ⟨t211, A20, H⟩ := oB H; replace H : (some (wrap64 (t211 - 1))) = some r := H; have A2 := am A20; clear A20; obtain rfl := Option.some.inj H; go_enter Tryd.func63, Tryd.ntmps63
 go_wp2_with (first | ((with_reducible refine gate_callee (f := 114) rfl ?_); refine goesLA (some 4) Tryd.func114 #[.int .i64 a0] rfl rfl rfl (h := ?_); (with_reducible refine (spec_l01Power.calls k a0 t211 _ A2.out).mono ?_); rintro e w' ⟨rfl, ⟨nd, rfl⟩⟩; refine ⟨_, rfl, ?_⟩))
 go_ret; exact ⟨tF, tD⟩
def spec_l01Digit.f (k : Nat) (a0 : Int) (a1 : Int) : Option (Int) := (spec_l01Power.f k a1).bind fun t220 => (if t220 = 0 then (none) else (some (Int.tmod (wrap64 (Int.tdiv a0 t220)) 3)))
theorem spec_l01Digit.mono : ∀ a0 a1 k, LeO (spec_l01Digit.f k a0 a1) (spec_l01Digit.f (k + 1) a0 a1) := by
 intro a0 a1 k; unfold spec_l01Digit.f
 repeat' first
   | (with_reducible exact spec_l01Power.mono _ _)
   | (with_reducible exact LeO.refl _)
   | (with_reducible exact LeO.none _)
   | (with_reducible refine LeO.ite ?_ ?_)
   | (with_reducible refine LeO.bind ?_ (fun _ => ?_))
   | exact spec_l01Power.mono _ _
   | exact LeO.none _
   | refine LeO.ite ?_ ?_
   | refine LeO.bind ?_ (fun _ => ?_)
theorem spec_l01Digit.calls (k : Nat) (a0 : Int) (a1 : Int) (r : Int) (w : World) (h : spec_l01Digit.f k a0 a1 = some r) :
  Calls Tryd.prog 137 #[.int .i64 a0, .int .i64 a1] w fun e w' => e = .returned (.int .i64 r) ∧ Drawn0 w w' := by
 have H : ((spec_l01Power.f k a1).bind fun t220 => (if t220 = 0 then (none) else (some (Int.tmod (wrap64 (Int.tdiv a0 t220)) 3)))) = some r := h; clear h; obtain ⟨t220, A30, H⟩ := oB H; replace H : (if t220 = 0 then (none) else (some (Int.tmod (wrap64 (Int.tdiv a0 t220)) 3))) = some r := H; have A3 := am A30; clear A30; by_cases c4 : t220 = 0
 ·rw [if_pos c4] at H; exact absurd H (by simp)
 ·rw [if_neg c4] at H; have c4b0 : (t220 == 0) = false := beq_eq_false_iff_ne.mpr c4; have c4b1 : (t220 != 0) = true := bne_iff_ne.mpr c4; obtain rfl := Option.some.inj H; go_enter Tryd.func137, Tryd.ntmps137
  go_wp2_with (first | ((with_reducible refine gate_callee (f := 114) rfl ?_); refine goesLA (some 7) Tryd.func114 #[.int .i64 a1] rfl rfl rfl (h := ?_); (with_reducible refine (spec_l01Power.calls k a1 t220 _ A3.out).mono ?_); rintro e w' ⟨rfl, ⟨nd, rfl⟩⟩; refine ⟨_, rfl, ?_⟩))
  go_ret; exact ⟨tF, tD⟩
def spec_l01Ended.l0 (k : Nat) (c : Int) : Nat → Nat → Int → Option Int
 | 0, _, e => some e
 | m + 1, t, e => (spec_l01Digit.f k c (t : Int)).bind fun d => if d = 2 then spec_l01Ended.l0 k c m (t + 1) (bits .or .i64 e (wrap64 (2 ^ t))) else if bits .and .i64 (e / 2 ^ t) 1 = 1 then some (-1) else spec_l01Ended.l0 k c m (t + 1) e
def spec_l01Ended.f (k : Nat) (a0 : Int) (a1 : Int) (a2 : Int) : Option (Int) := if 0 ≤ a0 ∧ a0 ≤ 3 then spec_l01Ended.l0 k a2 a0.toNat 0 a1 else none
theorem spec_l01Ended.mono_l : ∀ k y0 y1 y2 y3, LeO (spec_l01Ended.l0 k y0 y1 y2 y3) (spec_l01Ended.l0 (k + 1) y0 y1 y2 y3) := by
 intro k y0 y1
 induction y1 with
 | zero => intro y2 y3; exact LeO.refl _
 | succ m ih =>
  intro y2 y3; simp only [spec_l01Ended.l0]; refine LeO.bind (spec_l01Digit.mono _ _ _) (fun d => ?_); refine LeO.ite (ih _ _) (LeO.ite (LeO.refl _) (ih _ _))
theorem spec_l01Ended.mono : ∀ a0 a1 a2 k, LeO (spec_l01Ended.f k a0 a1 a2) (spec_l01Ended.f (k + 1) a0 a1 a2) := by
 intro a0 a1 a2 k; unfold spec_l01Ended.f; exact LeO.ite (spec_l01Ended.mono_l _ _ _ _ _) (LeO.refl _)
theorem spec_l01Ended.calls (k : Nat) (a0 : Int) (a1 : Int) (a2 : Int) (r : Int) (w : World) (h : spec_l01Ended.f k a0 a1 a2 = some r) :
  Calls Tryd.prog 166 #[.int .i64 a0, .int .i64 a1, .int .i64 a2] w fun e w' => e = .returned (.int .i64 r) ∧ Drawn0 w w' := by
 unfold spec_l01Ended.f at h; by_cases h0 : 0 ≤ a0 ∧ a0 ≤ 3
 ·rw [if_pos h0] at h; obtain ⟨n, rfl⟩ : ∃ n : Nat, a0 = (n : Int) := ⟨a0.toNat, by omega⟩; (have hn : n ≤ 3 := by omega); have H := am (show spec_l01Ended.l0 k a2 n 0 a1 = some r by simpa using h); clear h h0; go_enter Tryd.func166, Tryd.ntmps166; go_wp2
  go_loopg [1, 7] n (fun kq v1 v7 w' => ∃ (e : Int) (t : Nat), v1 = .int .i64 e ∧ v7 = .int .i64 (t : Int) ∧ Aside0 (spec_l01Ended.l0 k a2 kq t e = some r) ∧ Aside0 (t + kq = n) ∧ Drawn0 w w')
  case atStart => exact ⟨a1, 0, rfl, by simp, H, ⟨by omega⟩, tD⟩
  case round =>
   clear H; obtain ⟨e, t, rfl, rfl, H, HK, ⟨m1, rfl⟩⟩ := hrel
   cases gk with
   | zero =>
    (have ht : t = n := by have := HK.out; omega); subst ht; obtain rfl : e = r := Option.some.inj H.out; have c1 : decide ((t : Int) < (t : Int)) = false := decide_eq_false (by omega); have c2 : decide (t < t) = false := decide_eq_false (by omega); clear H HK; go_wp2; go_ret; exact ⟨rfl, tD⟩
   | succ k1 =>
    (have ht : t < n := by have := HK.out; omega); have c1 : decide ((t : Int) < (n : Int)) = true := decide_eq_true (by omega); have c2 : decide (t < n) = true := decide_eq_true (by omega); have h1 := H.out; rw [spec_l01Ended.l0] at h1; obtain ⟨d, hd, h2⟩ := oB h1; have HD := am hd; clear h1 H hd; (have ht3 : t < 3 := by omega); by_cases e2 : d = 2
    ·rw [if_pos e2] at h2; subst e2; have H2 := am h2; clear h2
     go_wp2_with (first | (go_at_call 137; (with_reducible refine (spec_l01Digit.calls k a2 (t : Int) 2 _ HD.out).mono ?_); rintro e_ w5 ⟨rfl, ⟨m5, rfl⟩⟩))
     go_roundg k1
     case measure => omega
     case rel => exact ⟨_, t + 1, rfl, by go_num, H2, ⟨by have := HK.out; omega⟩, tD⟩
    ·rw [if_neg e2] at h2; (have e21 : (d == 2) = false := by simpa using e2); (have e22 : decide (d = 2) = false := by simpa using e2); by_cases e3 : bits .and .i64 (e / 2 ^ t) 1 = 1
     ·rw [if_pos e3] at h2; obtain rfl : -1 = r := Option.some.inj h2; (have e31 : (bits .and .i64 (e / 2 ^ t) 1 == 1) = true := by simpa using e3); clear h2
      go_wp2_with (first | (go_at_call 137; (with_reducible refine (spec_l01Digit.calls k a2 (t : Int) d _ HD.out).mono ?_); rintro e_ w5 ⟨rfl, ⟨m5, rfl⟩⟩))
      go_ret; exact ⟨rfl, tD⟩
     ·rw [if_neg e3] at h2; (have e31 : (bits .and .i64 (e / 2 ^ t) 1 == 1) = false := by simpa using e3); have H2 := am h2; have E2 := am e2; have E3 := am e3; clear h2 e2 e3
      go_wp2_with (first | (go_at_call 137; (with_reducible refine (spec_l01Digit.calls k a2 (t : Int) d _ HD.out).mono ?_); rintro e_ w5 ⟨rfl, ⟨m5, rfl⟩⟩))
      go_roundg k1
      case measure => omega
      case rel => exact ⟨e, t + 1, rfl, by go_num, H2, ⟨by have := HK.out; omega⟩, tD⟩
 ·rw [if_neg h0] at h; cases h
/-- A state of type 38 at block g of W; what its slices lead to came in by w0. -/
def IsS38 (w0 W : World) (g : Nat) (f0 : Int) (f1 : Int) (f2 : List Bool) (f3 : List (List Int)) : Prop := ∃ A2 c2, ∃ A3 c3, W.heap[g]? = some (.cells #[.int .i64 f0, .int .i64 f1, .slice A2 f2.length c2, .slice A3 f3.length c3] 38 (0, 0)) ∧ w0.heap.size ≤ g ∧ Kd.C Kd.bool w0 A2 f2.length f2 ∧ Kd.C (Kd.slice 2 (Kd.int .i64)) w0 A3 f3.length f3
theorem IsS38.grown {w0 W : World} {g : Nat} {f0 : Int} {f1 : Int} {f2 : List Bool} {f3 : List (List Int)} {W1 : World} {row : Option Nat} (h : IsS38 w0 W g f0 f1 f2 f3) (hw : W.grownBy W1 row) (hne : some g ≠ row) : IsS38 w0 W1 g f0 f1 f2 f3 := by
 obtain ⟨A2, c2, A3, c3, hb, hg, hr2, hr3⟩ := h; exact ⟨A2, c2, A3, c3, blk_grown hb hw hne, hg, hr2, hr3⟩
theorem IsS38.fresh {w0 W : World} {g : Nat} {f0 : Int} {f1 : Int} {f2 : List Bool} {f3 : List (List Int)} (h : IsS38 w0 W g f0 f1 f2 f3) : ∀ k, W.heap.size ≤ k → k ≠ g := by
 obtain ⟨A2, c2, A3, c3, hb, hg, hr2, hr3⟩ := h; exact Kd.freshB hb
theorem IsS38.kept {w0 W : World} {g : Nat} {f0 : Int} {f1 : Int} {f2 : List Bool} {f3 : List (List Int)} {W1 : World} {S : Nat → Prop} (h : IsS38 w0 W g f0 f1 f2 f3) (hk : Kept W W1 S) (hne : ¬ S g) : IsS38 w0 W1 g f0 f1 f2 f3 := by
 obtain ⟨A2, c2, A3, c3, hb, hg, hr2, hr3⟩ := h; exact ⟨A2, c2, A3, c3, blk_kept hb hk hne, hg, hr2, hr3⟩
theorem IsS38.below {w0 W : World} {g : Nat} {f0 : Int} {f1 : Int} {f2 : List Bool} {f3 : List (List Int)} {W1 : World} (h : IsS38 w0 W g f0 f1 f2 f3) (hw : Below W.heap.size W W1) : IsS38 w0 W1 g f0 f1 f2 f3 := h.grown (grown_of_below hw none) (by simp)
theorem IsS38.alloc {w0 W : World} {g : Nat} {f0 : Int} {f1 : Int} {f2 : List Bool} {f3 : List (List Int)} (h : IsS38 w0 W g f0 f1 f2 f3) (o : Obj) : IsS38 w0 (W.alloc o) g f0 f1 f2 f3 := h.below (below_alloc (Below.refl _ _) o)
theorem IsS38.drewN {w0 W : World} {g : Nat} {f0 : Int} {f1 : Int} {f2 : List Bool} {f3 : List (List Int)} (h : IsS38 w0 W g f0 f1 f2 f3) (m : Nat) : IsS38 w0 (W.drewN m) g f0 f1 f2 f3 := h
theorem IsS38.drew {w0 W : World} {g : Nat} {f0 : Int} {f1 : Int} {f2 : List Bool} {f3 : List (List Int)} (h : IsS38 w0 W g f0 f1 f2 f3) : IsS38 w0 W.drew g f0 f1 f2 f3 := h
theorem IsS38.at_ {w0 W : World} {g : Nat} {f0 : Int} {f1 : Int} {f2 : List Bool} {f3 : List (List Int)} {w' : World} {m : Nat} (hq : W.drewN m = w') (h : IsS38 w0 W g f0 f1 f2 f3) : IsS38 w0 w' g f0 f1 f2 f3 := by subst hq; exact IsS38.drewN h m
theorem IsS38.apart {w0 W : World} {g : Nat} {f0 : Int} {f1 : Int} {f2 : List Bool} {f3 : List (List Int)} {α : Type} {d : Kd α} {e : Nat} {base : Nat} {ok : Nat → Prop} {v : Value} {xs : List α} (h : IsS38 w0 W g f0 f1 f2 f3) (ho : d.R e W base ok v xs) (ht : ∀ q, q ∈ e :: d.E → q ≠ 38) : d.R e W base (fun k => ok k ∧ k ≠ g) v xs := by
 obtain ⟨A2, c2, A3, c3, hb, hg, hr2, hr3⟩ := h; exact Kd.R_types ho hb ht
theorem IsS38.own_ne {w0 W : World} {g : Nat} {f0 : Int} {f1 : Int} {f2 : List Bool} {f3 : List (List Int)} {α : Type} {d : Kd α} {e : Nat} {base : Nat} {ok : Nat → Prop} {v : Value} {xs : List α} (h : IsS38 w0 W g f0 f1 f2 f3) (ho : d.R e W base ok v xs) (ht : e ≠ 38) : some g ≠ v.ownBlock := by
 obtain ⟨A2, c2, A3, c3, hb, hg, hr2, hr3⟩ := h; exact Kd.R_ne ho hb ht
theorem IsS38.lt {w0 W : World} {g : Nat} {f0 : Int} {f1 : Int} {f2 : List Bool} {f3 : List (List Int)} (h : IsS38 w0 W g f0 f1 f2 f3) : g < W.heap.size := by
 obtain ⟨A2, c2, A3, c3, hb, hg, hr2, hr3⟩ := h; exact blk_lt hb
theorem IsS38.ge {w0 W : World} {g : Nat} {f0 : Int} {f1 : Int} {f2 : List Bool} {f3 : List (List Int)} (h : IsS38 w0 W g f0 f1 f2 f3) : w0.heap.size ≤ g := by
 obtain ⟨A2, c2, A3, c3, hb, hg, hr2, hr3⟩ := h; exact hg
theorem IsS38.far {w0 W : World} {g : Nat} {f0 : Int} {f1 : Int} {f2 : List Bool} {f3 : List (List Int)} {p : Addr} (h : IsS38 w0 W g f0 f1 f2 f3) (hne : g ≠ p.block) (u : Value) : IsS38 w0 (W.setCell p u) g f0 f1 f2 f3 := by
 obtain ⟨A2, c2, A3, c3, hb, hg, hr2, hr3⟩ := h; exact ⟨A2, c2, A3, c3, blk_far hb hne u, hg, hr2, hr3⟩
theorem IsS38.set_0 {w0 W : World} {g : Nat} {f0 : Int} {f1 : Int} {f2 : List Bool} {f3 : List (List Int)} (h : IsS38 w0 W g f0 f1 f2 f3) (x : Int) : IsS38 w0 (W.setCell ⟨g, 0, none⟩ (.int .i64 x)) g x f1 f2 f3 := by
 obtain ⟨A2, c2, A3, c3, hb, hg, hr2, hr3⟩ := h; exact ⟨A2, c2, A3, c3, by simpa using blk_set hb 0 (.int .i64 x), hg, hr2, hr3⟩
theorem IsS38.set_1 {w0 W : World} {g : Nat} {f0 : Int} {f1 : Int} {f2 : List Bool} {f3 : List (List Int)} (h : IsS38 w0 W g f0 f1 f2 f3) (x : Int) : IsS38 w0 (W.setCell ⟨g, 1, none⟩ (.int .i64 x)) g f0 x f2 f3 := by
 obtain ⟨A2, c2, A3, c3, hb, hg, hr2, hr3⟩ := h; exact ⟨A2, c2, A3, c3, by simpa using blk_set hb 1 (.int .i64 x), hg, hr2, hr3⟩
theorem IsS38.new (w0 W : World) (A2 : Option Addr) (c2 : Nat) (A3 : Option Addr) (c3 : Nat) (f0 : Int) (f1 : Int) (f2 : List Bool) (f3 : List (List Int)) (hB : Below w0.heap.size w0 W) (hr2 : Kd.C Kd.bool w0 A2 f2.length f2) (hr3 : Kd.C (Kd.slice 2 (Kd.int .i64)) w0 A3 f3.length f3) : IsS38 w0 (W.alloc (.cells #[.int .i64 f0, .int .i64 f1, .slice A2 f2.length c2, .slice A3 f3.length c3] 38)) W.heap.size f0 f1 f2 f3 := ⟨A2, c2, A3, c3, by simpa using heap_alloc_new W _, hB.size, hr2, hr3⟩
def spec_l01Alike.l0 : Nat → List Int → Int → Int → Int → Int → Int → List Bool → List (List Int) → Option (Bool × Int × Int)
 | 0, _, _, _, _, _, _, _, _ => none
 | k + 1, x1, x2, x3, x9, x1000, x1001, x1002, x1003 => if 0 ≤ x2 then (if x2 < (x1003.length : Int) then (if x9 < ((rd_L5 x1003 x2).length : Int) then (if 0 ≤ x9 then (if 0 ≤ (rd (rd_L5 x1003 x2) x9) then (if (rd (rd_L5 x1003 x2) x9) < (x1.length : Int) then (if 0 ≤ x3 then (if x3 < (x1003.length : Int) then (if x9 < ((rd_L5 x1003 x3).length : Int) then (if 0 ≤ (rd (rd_L5 x1003 x3) x9) then (if (rd (rd_L5 x1003 x3) x9) < (x1.length : Int) then (if (rd x1 (rd (rd_L5 x1003 x2) x9)) = (rd x1 (rd (rd_L5 x1003 x3) x9)) then (spec_l01Alike.l0 k x1 x2 x3 (wrap64 (x9 + 1)) x1000 x1001 x1002 x1003) else (some (false, x1000, x1001))) else (none)) else (none)) else (none)) else (none)) else (none)) else (none)) else (none)) else (none)) else (some (true, x1000, x1001))) else (none)) else (none)
def spec_l01Alike.f (k : Nat) (s0_0 : Int) (s0_1 : Int) (s0_2 : List Bool) (s0_3 : List (List Int)) (l1 : List Int) (a2 : Int) (a3 : Int) : Option (Bool × Int × Int) := spec_l01Alike.l0 k l1 a2 a3 0 s0_0 s0_1 s0_2 s0_3
theorem tI {p : Prop} (h : p := by repeat (first | (with_reducible first | exact HI0.out | apply IsS38.alloc | apply IsS38.drewN | apply IsS38.drew | apply IsS38.set_0 | apply IsS38.set_1) | exact HI0.out)) : p := h
theorem IsS38.i {w0 W : World} {g : Nat} {f0 : Int} {f1 : Int} {f2 : List Bool} {f3 : List (List Int)} (h : IsS38 w0 W g f0 f1 f2 f3) : ∃ A2 c2 A3 c3, W.cell? ⟨g, 0, none⟩ = some (.int .i64 f0) ∧ W.cell? ⟨g, 1, none⟩ = some (.int .i64 f1) ∧ W.cell? ⟨g, 2, none⟩ = some (.slice A2 f2.length c2) ∧ W.cell? ⟨g, 3, none⟩ = some (.slice A3 f3.length c3) ∧ W.frozen? ⟨g, 0, none⟩ = false ∧ W.frozen? ⟨g, 1, none⟩ = false ∧ W.frozen? ⟨g, 2, none⟩ = false ∧ W.frozen? ⟨g, 3, none⟩ = false ∧ Kd.C Kd.bool w0 A2 f2.length f2 ∧ Kd.C (Kd.slice 2 (Kd.int .i64)) w0 A3 f3.length f3 := by
 obtain ⟨A2, c2, A3, c3, h1, h2, h3, h4⟩ := h; obtain ⟨a, b, c, d⟩ := bc4 h1; obtain ⟨e, f, g_, h_⟩ := bf4 h1; exact ⟨A2, c2, A3, c3, a, b, c, d, e, f, g_, h_, h3, h4⟩
theorem spec_l01Alike.calls (k : Nat) (g : Nat) (s0_0 : Int) (s0_1 : Int) (s0_2 : List Bool) (s0_3 : List (List Int)) (A1 : Option Addr) (c1 : Nat) (l1 : List Int) (a2 : Int) (a3 : Int) (r1 : Bool) (r2 : Int) (r3 : Int) (w0 w : World) (hI : IsS38 w0 w g s0_0 s0_1 s0_2 s0_3) (hB : Below w0.heap.size w0 w) (hr1 : Kd.C (Kd.int .i64) w A1 l1.length l1) (hc1 : l1.length ≤ c1) (hf1 : ∀ ad, A1 = some ad → 0 < l1.length → ad.block ≠ g) (h : spec_l01Alike.f k s0_0 s0_1 s0_2 s0_3 l1 a2 a3 = some (r1, r2, r3)) :
  Calls Tryd.prog 167 #[.pointer (some ⟨g, 0, none⟩), .slice A1 l1.length c1, .int .i64 a2, .int .i64 a3] w fun e w' => e = .returned (.bool r1) ∧ IsS38 w0 w' g r2 r3 s0_2 s0_3 ∧ Below w0.heap.size w0 w' ∧ KeepBut w w' g none := by
 have HR1 := am hr1; have HC1 := am hc1; clear hr1 hc1; have HI0 := am hI; have HK := am (KeepBut.refl w g none); have HL := am hB.size; clear hI; have HW0 := am hB.size; have HB := am hB; clear hB; have H : (spec_l01Alike.l0 k l1 a2 a3 0 s0_0 s0_1 s0_2 s0_3) = some (r1, r2, r3) := h; clear h; have H' := am H; clear H; go_enter Tryd.func167, Tryd.ntmps167; go_wp2
 repeat (go_quiet (fail); try go_wp2)
 go_loopg [9] k (fun kq v9 w' => ∃ (x9_1 : Int), v9 = .int .i64 x9_1 ∧ Aside0 (spec_l01Alike.l0 kq l1 a2 a3 x9_1 s0_0 s0_1 s0_2 s0_3 = some (r1, r2, r3)) ∧ Aside0 (kq ≤ k) ∧ Aside0 (IsS38 w0 w' g s0_0 s0_1 s0_2 s0_3) ∧ Aside0 (KeepBut w w' g none) ∧ Aside0 (Below w0.heap.size w0 w'))
 case atStart => exact ⟨(0), (tF), H', ⟨Nat.le_refl _⟩, ⟨tI⟩, ⟨tK⟩, ⟨tB⟩⟩
 case round =>
  clear H'
  try clear c1; try clear p2
  obtain ⟨x9_1, rfl, HA, HK1, HI0, HK, HB⟩ := hrel
  cases gk with
  | zero => exact absurd HA.out (by simp [spec_l01Alike.l0])
  | succ k1 =>
   have H := HA.out; clear HA; simp only [spec_l01Alike.l0] at H; by_cases c5 : 0 ≤ a2
   ·rw [if_pos c5] at H; have c5b0 := decide_eq_true c5; clear c5; by_cases c6 : a2 < (s0_3.length : Int)
    ·rw [if_pos c6] at H; have c6b0 := decide_eq_true c6; clear c6; by_cases c7 : x9_1 < ((rd_L5 s0_3 a2).length : Int)
     ·rw [if_pos c7] at H; have c7b0 := decide_eq_true c7; clear c7; by_cases c8 : 0 ≤ x9_1
      ·rw [if_pos c8] at H; have c8b0 := decide_eq_true c8; clear c8; by_cases c9 : 0 ≤ (rd (rd_L5 s0_3 a2) x9_1)
       ·rw [if_pos c9] at H; have c9b0 := decide_eq_true c9; clear c9; by_cases c10 : (rd (rd_L5 s0_3 a2) x9_1) < (l1.length : Int)
        ·rw [if_pos c10] at H; have c10b0 := decide_eq_true c10; clear c10; by_cases c11 : 0 ≤ a3
         ·rw [if_pos c11] at H; have c11b0 := decide_eq_true c11; clear c11; by_cases c12 : a3 < (s0_3.length : Int)
          ·rw [if_pos c12] at H; have c12b0 := decide_eq_true c12; clear c12; by_cases c13 : x9_1 < ((rd_L5 s0_3 a3).length : Int)
           ·rw [if_pos c13] at H; have c13b0 := decide_eq_true c13; clear c13; by_cases c14 : 0 ≤ (rd (rd_L5 s0_3 a3) x9_1)
            ·rw [if_pos c14] at H; have c14b0 := decide_eq_true c14; clear c14; by_cases c15 : (rd (rd_L5 s0_3 a3) x9_1) < (l1.length : Int)
             ·rw [if_pos c15] at H; have c15b0 := decide_eq_true c15; clear c15; by_cases c16 : (rd l1 (rd (rd_L5 s0_3 a2) x9_1)) = (rd l1 (rd (rd_L5 s0_3 a3) x9_1))
              ·rw [if_pos c16] at H; have c16b0 : ((rd l1 (rd (rd_L5 s0_3 a2) x9_1)) == (rd l1 (rd (rd_L5 s0_3 a3) x9_1))) = true := beq_iff_eq.mpr c16; have c16b1 : ((rd l1 (rd (rd_L5 s0_3 a2) x9_1)) != (rd l1 (rd (rd_L5 s0_3 a3) x9_1))) = false := bne_eq_false_iff_eq.mpr c16; clear c16; have H' := am H; clear H; obtain ⟨ASz17_2, cSz17_2, ASz17_3, cSz17_3, hcz17_0, hcz17_1, hcz17_2, hcz17_3, hfz17_0, hfz17_1, -, -, HSz17_2, HSz17_3⟩ := HI0.out.i; have p221 : 0 ≤ (a2 : Int) := oA; have q221 : a2 < (s0_3.length : Int) := oA; obtain ⟨ad221, A221_0, c221_0, e221, hx221_0, hl221_0, hi221_0⟩ := at_L5 HSz17_3 a2 p221 q221; cases e221; replace hx221_0 := pw_cell_below HB.out hx221_0; have HR221_0 := am hi221_0; have HC221_0 := am hl221_0; clear hi221_0 hl221_0; replace p221 := eq_true p221; replace q221 := eq_true q221; have p222 : 0 ≤ (a2 : Int) := oA; have q222 : a2 < (s0_3.length : Int) := oA; obtain ⟨ad222, A222_0, c222_0, e222, hx222_0, hl222_0, hi222_0⟩ := at_L5 HSz17_3 a2 p222 q222; obtain rfl : ad221 = ad222 := (by injection e222); replace hx222_0 := pw_cell_below HB.out hx222_0
               try (have hxe_ := hx221_0.symm.trans hx222_0; injection hxe_ with hxe_; injection hxe_ with hA_ hl_ hc_; subst hA_; subst hc_)
               have HR222_0 := am hi222_0; have HC222_0 := am hl222_0; clear hi222_0 hl222_0; replace p222 := eq_true p222; replace q222 := eq_true q222; have p223 : 0 ≤ (x9_1 : Int) := oA; have q223 : x9_1 < ((rd_L5 s0_3 a2).length : Int) := oA; obtain ⟨ad223, e223, hx223_0⟩ := Kd.at_int HR222_0.out x9_1 p223 q223; cases e223; replace hx223_0 := (by first | exact keep_cell HK.out hx223_0 (by first | (rw [add_block]; exact hf222_0 _ rfl (by omega)) | exact hf222_0 _ rfl (by omega) | exact hf222_0 ad223 rfl (by omega)) | exact pw_cell_below HB.out hx223_0); replace p223 := eq_true p223; replace q223 := eq_true q223; have p224 : 0 ≤ ((rd (rd_L5 s0_3 a2) x9_1) : Int) := oA; have q224 : (rd (rd_L5 s0_3 a2) x9_1) < (l1.length : Int) := oA; obtain ⟨ad224, e224, hx224_0⟩ := Kd.at_int HR1.out (rd (rd_L5 s0_3 a2) x9_1) p224 q224; cases e224; replace hx224_0 := (by first | exact keep_cell HK.out hx224_0 (by first | (rw [add_block]; exact hf1 _ rfl (by omega)) | exact hf1 _ rfl (by omega) | exact hf1 ad224 rfl (by omega)) | exact pw_cell_below HB.out hx224_0); replace p224 := eq_true p224; replace q224 := eq_true q224; have p225 : 0 ≤ (a3 : Int) := oA; have q225 : a3 < (s0_3.length : Int) := oA; obtain ⟨ad225, A225_0, c225_0, e225, hx225_0, hl225_0, hi225_0⟩ := at_L5 HSz17_3 a3 p225 q225; obtain rfl : ad221 = ad225 := (by injection e225); replace hx225_0 := pw_cell_below HB.out hx225_0
               try (have hxe_ := hx221_0.symm.trans hx225_0; injection hxe_ with hxe_; injection hxe_ with hA_ hl_ hc_; subst hA_; subst hc_)
               have HR225_0 := am hi225_0; have HC225_0 := am hl225_0; clear hi225_0 hl225_0; replace p225 := eq_true p225; replace q225 := eq_true q225; have p226 : 0 ≤ (x9_1 : Int) := oA; have q226 : x9_1 < ((rd_L5 s0_3 a3).length : Int) := oA; obtain ⟨ad226, e226, hx226_0⟩ := Kd.at_int HR225_0.out x9_1 p226 q226; cases e226; replace hx226_0 := (by first | exact keep_cell HK.out hx226_0 (by first | (rw [add_block]; exact hf225_0 _ rfl (by omega)) | exact hf225_0 _ rfl (by omega) | exact hf225_0 ad226 rfl (by omega)) | exact pw_cell_below HB.out hx226_0); replace p226 := eq_true p226; replace q226 := eq_true q226; have p227 : 0 ≤ ((rd (rd_L5 s0_3 a3) x9_1) : Int) := oA; have q227 : (rd (rd_L5 s0_3 a3) x9_1) < (l1.length : Int) := oA; obtain ⟨ad227, e227, hx227_0⟩ := Kd.at_int HR1.out (rd (rd_L5 s0_3 a3) x9_1) p227 q227; obtain rfl : ad224 = ad227 := (by injection e227); replace hx227_0 := (by first | exact keep_cell HK.out hx227_0 (by first | (rw [add_block]; exact hf1 _ rfl (by omega)) | exact hf1 _ rfl (by omega) | exact hf1 ad224 rfl (by omega)) | exact pw_cell_below HB.out hx227_0)
               try (have hxe_ := hx224_0.symm.trans hx227_0; injection hxe_ with hxe_; injection hxe_ with hA_ hl_ hc_; subst hA_; subst hc_)
               replace p227 := eq_true p227; replace q227 := eq_true q227; go_wp2
               repeat (go_quiet (fail); try go_wp2)
               go_roundg k1
               case measure => have := HK1.out; omega
               case rel => exact ⟨(wrap64 (x9_1 + 1)), (tF), H', ⟨by have := HK1.out; omega⟩, ⟨tI⟩, ⟨tK⟩, ⟨tB⟩⟩
              ·rw [if_neg c16] at H; have c16b0 : ((rd l1 (rd (rd_L5 s0_3 a2) x9_1)) == (rd l1 (rd (rd_L5 s0_3 a3) x9_1))) = false := beq_eq_false_iff_ne.mpr c16; have c16b1 : ((rd l1 (rd (rd_L5 s0_3 a2) x9_1)) != (rd l1 (rd (rd_L5 s0_3 a3) x9_1))) = true := bne_iff_ne.mpr c16; simp only [Option.some.injEq, Prod.mk.injEq] at H; obtain ⟨rfl, rfl, rfl⟩ := H; obtain ⟨ASz18_2, cSz18_2, ASz18_3, cSz18_3, hcz18_0, hcz18_1, hcz18_2, hcz18_3, hfz18_0, hfz18_1, -, -, HSz18_2, HSz18_3⟩ := HI0.out.i; have p221 : 0 ≤ (a2 : Int) := oA; have q221 : a2 < (s0_3.length : Int) := oA; obtain ⟨ad221, A221_0, c221_0, e221, hx221_0, hl221_0, hi221_0⟩ := at_L5 HSz18_3 a2 p221 q221; cases e221; replace hx221_0 := pw_cell_below HB.out hx221_0; have HR221_0 := am hi221_0; have HC221_0 := am hl221_0; clear hi221_0 hl221_0; replace p221 := eq_true p221; replace q221 := eq_true q221; have p222 : 0 ≤ (a2 : Int) := oA; have q222 : a2 < (s0_3.length : Int) := oA; obtain ⟨ad222, A222_0, c222_0, e222, hx222_0, hl222_0, hi222_0⟩ := at_L5 HSz18_3 a2 p222 q222; obtain rfl : ad221 = ad222 := (by injection e222); replace hx222_0 := pw_cell_below HB.out hx222_0
               try (have hxe_ := hx221_0.symm.trans hx222_0; injection hxe_ with hxe_; injection hxe_ with hA_ hl_ hc_; subst hA_; subst hc_)
               have HR222_0 := am hi222_0; have HC222_0 := am hl222_0; clear hi222_0 hl222_0; replace p222 := eq_true p222; replace q222 := eq_true q222; have p223 : 0 ≤ (x9_1 : Int) := oA; have q223 : x9_1 < ((rd_L5 s0_3 a2).length : Int) := oA; obtain ⟨ad223, e223, hx223_0⟩ := Kd.at_int HR222_0.out x9_1 p223 q223; cases e223; replace hx223_0 := (by first | exact keep_cell HK.out hx223_0 (by first | (rw [add_block]; exact hf222_0 _ rfl (by omega)) | exact hf222_0 _ rfl (by omega) | exact hf222_0 ad223 rfl (by omega)) | exact pw_cell_below HB.out hx223_0); replace p223 := eq_true p223; replace q223 := eq_true q223; have p224 : 0 ≤ ((rd (rd_L5 s0_3 a2) x9_1) : Int) := oA; have q224 : (rd (rd_L5 s0_3 a2) x9_1) < (l1.length : Int) := oA; obtain ⟨ad224, e224, hx224_0⟩ := Kd.at_int HR1.out (rd (rd_L5 s0_3 a2) x9_1) p224 q224; cases e224; replace hx224_0 := (by first | exact keep_cell HK.out hx224_0 (by first | (rw [add_block]; exact hf1 _ rfl (by omega)) | exact hf1 _ rfl (by omega) | exact hf1 ad224 rfl (by omega)) | exact pw_cell_below HB.out hx224_0); replace p224 := eq_true p224; replace q224 := eq_true q224; have p225 : 0 ≤ (a3 : Int) := oA; have q225 : a3 < (s0_3.length : Int) := oA; obtain ⟨ad225, A225_0, c225_0, e225, hx225_0, hl225_0, hi225_0⟩ := at_L5 HSz18_3 a3 p225 q225; obtain rfl : ad221 = ad225 := (by injection e225); replace hx225_0 := pw_cell_below HB.out hx225_0
               try (have hxe_ := hx221_0.symm.trans hx225_0; injection hxe_ with hxe_; injection hxe_ with hA_ hl_ hc_; subst hA_; subst hc_)
               have HR225_0 := am hi225_0; have HC225_0 := am hl225_0; clear hi225_0 hl225_0; replace p225 := eq_true p225; replace q225 := eq_true q225; have p226 : 0 ≤ (x9_1 : Int) := oA; have q226 : x9_1 < ((rd_L5 s0_3 a3).length : Int) := oA; obtain ⟨ad226, e226, hx226_0⟩ := Kd.at_int HR225_0.out x9_1 p226 q226; cases e226; replace hx226_0 := (by first | exact keep_cell HK.out hx226_0 (by first | (rw [add_block]; exact hf225_0 _ rfl (by omega)) | exact hf225_0 _ rfl (by omega) | exact hf225_0 ad226 rfl (by omega)) | exact pw_cell_below HB.out hx226_0); replace p226 := eq_true p226; replace q226 := eq_true q226; have p227 : 0 ≤ ((rd (rd_L5 s0_3 a3) x9_1) : Int) := oA; have q227 : (rd (rd_L5 s0_3 a3) x9_1) < (l1.length : Int) := oA; obtain ⟨ad227, e227, hx227_0⟩ := Kd.at_int HR1.out (rd (rd_L5 s0_3 a3) x9_1) p227 q227; obtain rfl : ad224 = ad227 := (by injection e227); replace hx227_0 := (by first | exact keep_cell HK.out hx227_0 (by first | (rw [add_block]; exact hf1 _ rfl (by omega)) | exact hf1 _ rfl (by omega) | exact hf1 ad224 rfl (by omega)) | exact pw_cell_below HB.out hx227_0)
               try (have hxe_ := hx224_0.symm.trans hx227_0; injection hxe_ with hxe_; injection hxe_ with hA_ hl_ hc_; subst hA_; subst hc_)
               replace p227 := eq_true p227; replace q227 := eq_true q227; go_wp2
               repeat (go_quiet (fail); try go_wp2)
               go_ret; exact ⟨tE, tI, tB, tK⟩
             ·rw [if_neg c15] at H; exact absurd H (by simp)
            ·rw [if_neg c14] at H; exact absurd H (by simp)
           ·rw [if_neg c13] at H; exact absurd H (by simp)
          ·rw [if_neg c12] at H; exact absurd H (by simp)
         ·rw [if_neg c11] at H; exact absurd H (by simp)
        ·rw [if_neg c10] at H; exact absurd H (by simp)
       ·rw [if_neg c9] at H; exact absurd H (by simp)
      ·rw [if_neg c8] at H; exact absurd H (by simp)
     ·rw [if_neg c7] at H; have c7b0 := decide_eq_false c7; clear c7; simp only [Option.some.injEq, Prod.mk.injEq] at H; obtain ⟨rfl, rfl, rfl⟩ := H; obtain ⟨ASz19_2, cSz19_2, ASz19_3, cSz19_3, hcz19_0, hcz19_1, hcz19_2, hcz19_3, hfz19_0, hfz19_1, -, -, HSz19_2, HSz19_3⟩ := HI0.out.i; have p221 : 0 ≤ (a2 : Int) := oA; have q221 : a2 < (s0_3.length : Int) := oA; obtain ⟨ad221, A221_0, c221_0, e221, hx221_0, hl221_0, hi221_0⟩ := at_L5 HSz19_3 a2 p221 q221; cases e221; replace hx221_0 := pw_cell_below HB.out hx221_0; have HR221_0 := am hi221_0; have HC221_0 := am hl221_0; clear hi221_0 hl221_0; replace p221 := eq_true p221; replace q221 := eq_true q221; go_wp2
      repeat (go_quiet (fail); try go_wp2)
      go_ret; exact ⟨tE, tI, tB, tK⟩
    ·rw [if_neg c6] at H; exact absurd H (by simp)
   ·rw [if_neg c5] at H; exact absurd H (by simp)
def impl_powerOf.l0 : Nat → Int → Int → Option (Int)
 | 0, _, _ => none
 | k + 1, x0, x3 => if x0 > 0 then (impl_powerOf.l0 k (wrap64 (x0 - 1)) (wrap64 (x3 * 3))) else (some x3)
def impl_powerOf.f (k : Nat) (a0 : Int) : Option (Int) := impl_powerOf.l0 k a0 1
theorem impl_powerOf.mono_l : ∀ k, (∀ y0 y1, LeO (impl_powerOf.l0 k y0 y1) (impl_powerOf.l0 (k + 1) y0 y1))
 | 0 => fun _ _ r h => by simp [impl_powerOf.l0] at h
 | k + 1 => by
  have ih0 := impl_powerOf.mono_l k
  ·intro y0 y1; unfold impl_powerOf.l0
   repeat' first
   | (with_reducible exact ih0 _ _)
   | (with_reducible exact LeO.refl _)
   | (with_reducible exact LeO.none _)
   | (with_reducible refine LeO.ite ?_ ?_)
   | (with_reducible refine LeO.bind ?_ (fun _ => ?_))
   | exact ih0 _ _
   | exact LeO.none _
   | refine LeO.ite ?_ ?_
   | refine LeO.bind ?_ (fun _ => ?_)
theorem impl_powerOf.mono : ∀ a0 k, LeO (impl_powerOf.f k a0) (impl_powerOf.f (k + 1) a0) := by
 intro a0 k; have ih0 := impl_powerOf.mono_l k; unfold impl_powerOf.f
 repeat' first
   | (with_reducible exact ih0 _ _)
   | (with_reducible exact LeO.refl _)
   | (with_reducible exact LeO.none _)
   | (with_reducible refine LeO.ite ?_ ?_)
   | (with_reducible refine LeO.bind ?_ (fun _ => ?_))
   | exact ih0 _ _
   | exact LeO.none _
   | refine LeO.ite ?_ ?_
   | refine LeO.bind ?_ (fun _ => ?_)
theorem impl_powerOf.calls (k : Nat) (a0 : Int) (r : Int) (w : World) (h : impl_powerOf.f k a0 = some r) :
  Calls Tryd.prog 172 #[.int .i64 a0] w fun e w' => e = .returned (.int .i64 r) ∧ Drawn0 w w' := by
 have H : (impl_powerOf.l0 k a0 1) = some r := h; clear h; have H' := am H; clear H; go_enter Tryd.func172, Tryd.ntmps172; go_wp2
 go_loopg [0, 3] k (fun kq v0 v3 w' => ∃ (x0_1 : Int) (x3_1 : Int), v0 = .int .i64 x0_1 ∧ v3 = .int .i64 x3_1 ∧ Aside0 (impl_powerOf.l0 kq x0_1 x3_1 = some r) ∧ Aside0 (kq ≤ k) ∧ Drawn0 w w')
 case atStart => exact ⟨(a0), (1), (tF), (tF), H', ⟨Nat.le_refl _⟩, tD⟩
 case round =>
  clear H'
  try clear c1
  obtain ⟨x0_1, x3_1, rfl, rfl, HA, HK1, ⟨m1, rfl⟩⟩ := hrel
  cases gk with
  | zero => exact absurd HA.out (by simp [impl_powerOf.l0])
  | succ k1 =>
   have H := HA.out; clear HA; simp only [impl_powerOf.l0] at H; by_cases c2 : x0_1 > 0
   ·rw [if_pos c2] at H; have c2b0 : decide (0 < x0_1) = true := decide_eq_true c2; clear c2; have H' := am H; clear H; go_wp2; go_roundg k1
    case measure => have := HK1.out; omega
    case rel => exact ⟨(wrap64 (x0_1 - 1)), (wrap64 (x3_1 * 3)), (tF), (tF), H', ⟨by have := HK1.out; omega⟩, tD⟩
   ·rw [if_neg c2] at H; have c2b0 : decide (0 < x0_1) = false := decide_eq_false c2; clear c2; obtain rfl := Option.some.inj H; go_wp2; go_ret; exact ⟨tF, tD⟩
def impl_widthOf.f (k : Nat) (a0 : Int) : Option (Int) := (impl_powerOf.f k a0).bind fun t309 => (some (wrap64 (t309 - 1)))
theorem impl_widthOf.mono : ∀ a0 k, LeO (impl_widthOf.f k a0) (impl_widthOf.f (k + 1) a0) := by
 intro a0 k; unfold impl_widthOf.f
 repeat' first
   | (with_reducible exact impl_powerOf.mono _ _)
   | (with_reducible exact LeO.refl _)
   | (with_reducible exact LeO.none _)
   | (with_reducible refine LeO.ite ?_ ?_)
   | (with_reducible refine LeO.bind ?_ (fun _ => ?_))
   | exact impl_powerOf.mono _ _
   | exact LeO.none _
   | refine LeO.ite ?_ ?_
   | refine LeO.bind ?_ (fun _ => ?_)
theorem impl_widthOf.calls (k : Nat) (a0 : Int) (r : Int) (w : World) (h : impl_widthOf.f k a0 = some r) :
  Calls Tryd.prog 128 #[.int .i64 a0] w fun e w' => e = .returned (.int .i64 r) ∧ Drawn0 w w' := by
 have H : ((impl_powerOf.f k a0).bind fun t309 => (some (wrap64 (t309 - 1)))) = some r := h; clear h; obtain ⟨t309, A20, H⟩ := oB H; replace H : (some (wrap64 (t309 - 1))) = some r := H; have A2 := am A20; clear A20; obtain rfl := Option.some.inj H; go_enter Tryd.func128, Tryd.ntmps128
 go_wp2_with (first | ((with_reducible refine gate_callee (f := 172) rfl ?_); refine goesLA (some 4) Tryd.func172 #[.int .i64 a0] rfl rfl rfl (h := ?_); (with_reducible refine (impl_powerOf.calls k a0 t309 _ A2.out).mono ?_); rintro e w' ⟨rfl, ⟨nd, rfl⟩⟩; refine ⟨_, rfl, ?_⟩))
 go_ret; exact ⟨tF, tD⟩
end Go.Proofs.YtelicdmaohllgaaDoor.X
namespace Go.Proofs.YtelicdmaohllgaaDoor.X
set_option maxHeartbeats 16000000
set_option maxRecDepth 100000
open Go.RowKit Go.Proofs.YtelicdmaohllgaaDoorW.PrintWords Go.Proofs.YtelicdmaohllgaaDoorW.PrintLast Go.Proofs.YtelicdmaohllgaaDoorW.PrintMore
set_option linter.unusedVariables false
set_option linter.unusedSimpArgs false
/-- The state of 'grow': m, ids (of lm), the result's place, list, m.accept, m.next. -/
def GI (w W : World) (tapes : Int) (own : Nat → Nat) (v14 : Value) (l lm : List Int) (va : Value) (bs : List Bool) (vr : Value) (rs : List (List Int)) : Prop :=
 (W.heap[w.heap.size + 1]? = some (.cells #[.int .i64 tapes, .int .i64 0, va, vr] 78 (0, 0)) ∧ own (w.heap.size + 1) = 4) ∧
 (W.ownsMap Tryd.prog 3 (plainElem Tryd.prog 3) (w.heap.size + 2) lm.length (idsD (Lit.int .i64) lm) ∧ own (w.heap.size + 2) = 5) ∧
 (W.heap[w.heap.size]? = some (.cells #[.int .i64 0, .int .i64 0, .slice none 0 0, .slice none 0 0] 78 (0, 0)) ∧ own w.heap.size = 6) ∧
 (Kd.int .i64).R 3 W w.heap.size (fun k => own k = 1) v14 l ∧ Kd.bool.R 4 W w.heap.size (fun k => own k = 2) va bs ∧
 Kd.S (Kd.slice 3 (Kd.int .i64)) 68 W w.heap.size (fun k => own k = 3) vr rs ∧
 Below w.heap.size w W ∧ lm.Nodup ∧ (∀ x ∈ lm, inI64 x = true) ∧ lm.length ≤ 1900000
section
variable {w W W1 : World} {tapes : Int} {own : Nat → Nat} {v14 : Value} {l lm : List Int} {va : Value} {bs : List Bool} {vr : Value} {rs : List (List Int)}
theorem GI.below (h : GI w W tapes own v14 l lm va bs vr rs) (hb : Below W.heap.size W W1) : GI w W1 tapes own v14 l lm va bs vr rs := by
 obtain ⟨⟨h1, h2⟩, ⟨h3, h4⟩, ⟨h5, h6⟩, h7, h8, h9, h10, h11⟩ := h; exact ⟨⟨blk_below h1 hb, h2⟩, ⟨map_below h3 hb, h4⟩, ⟨blk_below h5 hb, h6⟩, Kd.R_below h7 hb, Kd.R_below h8 hb, Kd.S_below h9 hb, below_then h10 h10.size hb, h11⟩
/-- Another row (number t, none of these) was written. -/
theorem GI.other (h : GI w W tapes own v14 l lm va bs vr rs) {row : Option Nat} {t : Nat} (hg : W.grownBy W1 row) (hr : ∀ k, row = some k → retag own W.heap.size t k = t) (hb : Below w.heap.size w W1) (ht : 6 < t) : GI w W1 tapes (retag own W.heap.size t) v14 l lm va bs vr rs := by
 obtain ⟨h1, h3, h5, h7, h8, h9, h10, h11⟩ := h; exact ⟨blk_otherT h1 hg hr (by omega), map_otherT h3 hg hr (by omega), blk_otherT h5 hg hr (by omega), R_otherT h7 hg hr (by omega), R_otherT h8 hg hr (by omega), S_otherT h9 hg hr (by omega), hb, h11⟩
/-- A new state was put into the map. -/
theorem GI.put (h : GI w W tapes own v14 l l va bs vr rs) {x : Int} (hx : x ∉ l) (hi : inI64 x = true) (hl : l.length < 1900000) (hm : W1.ownsMap Tryd.prog 3 (plainElem Tryd.prog 3) (w.heap.size + 2) (l.length + 1) (idsD (Lit.int .i64) (l ++ [x]))) (hg : W.grownBy W1 (some (w.heap.size + 2))) :
  GI w W1 tapes (retag own W.heap.size 5) v14 l (l ++ [x]) va bs vr rs ∧ ∀ k, some (w.heap.size + 2) = some k → retag own W.heap.size 5 k = 5 := by
 obtain ⟨h1, h3, h5, h7, h8, h9, h10, hn, hin, hlen⟩ := h; (have e : retag own W.heap.size 5 (w.heap.size + 2) = 5 := by rw [retag_lt h3.1.lt]; exact h3.2)
 have hr : ∀ k, some (w.heap.size + 2) = some k → retag own W.heap.size 5 k = 5 := by
  intro k hk; injection hk with hk; subst hk; exact e
 refine ⟨⟨blk_otherT h1 hg hr (by omega), ⟨by simpa using hm, e⟩, blk_otherT h5 hg hr (by omega), R_otherT h7 hg hr (by omega), R_otherT h8 hg hr (by omega), S_otherT h9 hg hr (by omega), h10.grown hg h10.size (fun k hk => by injection hk with hk; omega), ?_, ?_, by simp; omega⟩, hr⟩
 ·refine List.nodup_append.2 ⟨hn, by simp, fun a ha b hb => ?_⟩; simp at hb; subst hb; exact fun he => hx (he ▸ ha)
 ·intro y hy
  rcases List.mem_append.1 hy with hy | hy
  ·exact hin y hy
  ·simp at hy; subst hy; exact hi
/-- .. and behind the list. -/
theorem GI.push (h : GI w W tapes own v14 l lm va bs vr rs) {v1 : Value} {l1 : List Int} (hR : (Kd.int .i64).R 3 W1 w.heap.size (fun k => retag own W.heap.size 1 k = 1) v1 l1) (hb : Below w.heap.size w W1) (hg : W.grownBy W1 v14.ownBlock) : GI w W1 tapes (retag own W.heap.size 1) v1 l1 lm va bs vr rs := by
 obtain ⟨h1, h3, h5, h7, h8, h9, h10, h11⟩ := h; have hr := R_rowT h7; exact ⟨blk_otherT h1 hg hr (by omega), map_otherT h3 hg hr (by omega), blk_otherT h5 hg hr (by omega), hR, R_otherT h8 hg hr (by omega), S_otherT h9 hg hr (by omega), hb, h11⟩
/-- m.accept was appended to (not yet stored back): m's own block, still. -/
theorem GI.box (h : GI w W tapes own v14 l lm va bs vr rs) (hg : W.grownBy W1 va.ownBlock) : W1.heap[w.heap.size + 1]? = some (.cells #[.int .i64 tapes, .int .i64 0, va, vr] 78 (0, 0)) := by
 obtain ⟨h1, h3, h5, h7, h8, h9, h10, h11⟩ := h; exact (blk_otherT h1 hg (R_rowT h8) (by omega)).1
theorem GI.acc (h : GI w W tapes own v14 l lm va bs vr rs) {v1 : Value} {bs1 : List Bool} (hR : Kd.bool.R 4 W1 w.heap.size (fun k => retag own W.heap.size 2 k = 2) v1 bs1) (hb : Below w.heap.size w W1) (hg : W.grownBy W1 va.ownBlock) : GI w (W1.setCell ⟨w.heap.size + 1, 2, none⟩ v1) tapes (retag own W.heap.size 2) v14 l lm v1 bs1 vr rs := by
 obtain ⟨h1, h3, h5, h7, h8, h9, h10, h11⟩ := h; have hr := R_rowT h8; have b1 := blk_otherT h1 hg hr (by omega); have b0 := blk_otherT h5 hg hr (by omega); have bm := map_otherT h3 hg hr (by omega); have ne : ∀ s k, s ≠ 4 → retag own W.heap.size 2 k = s → k ≠ w.heap.size + 1 := fun s k hs hk he => hs (by rw [← hk, he, b1.2]); refine ⟨⟨by simpa using blk_set b1.1 2 v1, b1.2⟩, ⟨bm.1.setCell (by simp) _, bm.2⟩, ⟨blk_far b0.1 (by simp) _, b0.2⟩, Kd.R_far (p := ⟨w.heap.size + 1, 2, none⟩) (R_otherT h7 hg hr (by omega)) (fun k hk => ne 1 k (by omega) hk) _, Kd.R_far (p := ⟨w.heap.size + 1, 2, none⟩) hR (fun k hk => ne 2 k (by omega) hk) _, Kd.S_far (p := ⟨w.heap.size + 1, 2, none⟩) (S_otherT h9 hg hr (by omega)) (fun k hk => ne 3 k (by omega) hk) _, hb.setCell (by simp) _, h11⟩
/-- The row was put behind m.next, and m.next stored back. -/
def merge73 (f : Nat → Nat) : Nat → Nat := fun k => if f k = 7 then 3 else f k
theorem GI.boxN (h : GI w W tapes own v14 l lm va bs vr rs) (hg : W.grownBy W1 vr.ownBlock) : W1.heap[w.heap.size + 1]? = some (.cells #[.int .i64 tapes, .int .i64 0, va, vr] 78 (0, 0)) := by
 obtain ⟨h1, h3, h5, h7, h8, h9, h10, h11⟩ := h; exact (blk_otherT h1 hg (S_rowT h9) (by omega)).1
theorem GI.nxt (h : GI w W tapes own v14 l lm va bs vr rs) {v1 : Value} {rs1 : List (List Int)} (hR : Kd.S (Kd.slice 3 (Kd.int .i64)) 68 W1 w.heap.size (fun k => retag own W.heap.size 3 k = 3 ∨ retag own W.heap.size 3 k = 7) v1 rs1) (hb : Below w.heap.size w W1) (hg : W.grownBy W1 vr.ownBlock) : GI w (W1.setCell ⟨w.heap.size + 1, 3, none⟩ v1) tapes (merge73 (retag own W.heap.size 3)) v14 l lm va bs v1 rs1 := by
 obtain ⟨h1, h3, h5, h7, h8, h9, h10, h11⟩ := h; have hr := S_rowT h9; have b1 := blk_otherT h1 hg hr (by omega); have b0 := blk_otherT h5 hg hr (by omega); have bm := map_otherT h3 hg hr (by omega); have ne : ∀ s k, s ≠ 4 → retag own W.heap.size 3 k = s → k ≠ w.heap.size + 1 := fun s k hs hk he => hs (by rw [← hk, he, b1.2]); (have mg : ∀ s k, s ≠ 7 → retag own W.heap.size 3 k = s → merge73 (retag own W.heap.size 3) k = s := fun s k hs hk => by simp [merge73, hk, hs]); refine ⟨⟨by simpa using blk_set b1.1 3 v1, mg 4 _ (by omega) b1.2⟩, ⟨bm.1.setCell (by simp) _, mg 5 _ (by omega) bm.2⟩, ⟨blk_far b0.1 (by simp) _, mg 6 _ (by omega) b0.2⟩, Kd.R_mono (Kd.R_far (p := ⟨w.heap.size + 1, 3, none⟩) (R_otherT h7 hg hr (by omega)) (fun k hk => ne 1 k (by omega) hk) _) (fun k hk => mg 1 k (by omega) hk), Kd.R_mono (Kd.R_far (p := ⟨w.heap.size + 1, 3, none⟩) (R_otherT h8 hg hr (by omega)) (fun k hk => ne 2 k (by omega) hk) _) (fun k hk => mg 2 k (by omega) hk), Kd.S_mono (Kd.S_far (p := ⟨w.heap.size + 1, 3, none⟩) hR (fun k hk => hk.elim (ne 3 k (by omega)) (ne 7 k (by omega))) _) (fun k hk => hk.elim (fun h => mg 3 k (by omega) h) (fun h => by simp [merge73, h])), hb.setCell (by simp) _, h11⟩
end
theorem infoG68 : (Tryd.prog.info? 68).map (fun i => (i.zero, i.size, i.bytes)) = some (some (.slice none 0 0), 1, 24) := by kernel_rfl
theorem zero_int (w : World) : (zeroValue 3).run Tryd.prog w = .ok (.int .i64 0) w := by kernel_rfl
theorem lit_inj (a b : Int) (h : Lit.int .i64 a = Lit.int .i64 b) : a = b := by injection h
theorem lit_key (a : Int) : WideAt.IsKeyLit (Lit.int .i64 a) := trivial
def GrowPost (w : World) (tapes : Int) (bs : List Bool) (rs : List (List Int)) (e : Ending) (w' : World) : Prop :=
 ∃ va vr, e = .returned (.tuple #[.agg #[.int .i64 tapes, .int .i64 0, va, vr], .bool true]) ∧ Kd.bool.R 4 w' w.heap.size (fun _ => True) va bs ∧ Kd.S (Kd.slice 3 (Kd.int .i64)) 68 w' w.heap.size (fun _ => True) vr rs ∧ Below w.heap.size w w'
theorem gi_at {w W : World} {tapes : Int} {own : Nat → Nat} {v14 : Value} {l lm : List Int} {va : Value} {bs : List Bool} {vr : Value} {rs : List (List Int)} (h : GI w W tapes own v14 l lm va bs vr rs) {i : Nat} {k : Int} (hk : l[i]? = some k) :
  ∃ g c, v14 = .slice (some ⟨g, 0, none⟩) l.length c ∧ W.cell? ⟨g, i, none⟩ = some (.int .i64 k) := by
 obtain ⟨_, _, _, h7, _⟩ := h; have hi : i < l.length := (List.getElem?_eq_some_iff.1 hk).1; obtain ⟨g, cap, hv, _⟩ := Kd.R_form h7 (by omega); subst hv; obtain ⟨_, _, hC⟩ := Kd.R_reads' h7; obtain ⟨ad, e, hx⟩ := Kd.at_int hC (i : Int) (by omega) (by omega); injection e with e; subst e; refine ⟨g, cap, rfl, ?_⟩; rw [add_plain] at hx; simp only [Int.toNat_natCast] at hx; rw [hx]; simp [rd, List.getD_eq_getElem?_getD, hk]
theorem gi_start {w w1 : World} {tapes start : Int} (hs : inI64 start = true)
  (hown : w1.ownsMap Tryd.prog 3 (plainElem Tryd.prog 3) (w.heap.size + 1 + 1) (0 + 1) (DataW.put (.map [] : DataW Unit) (.int .i64 start) (.lit (.int .i64 0))))
  (hg : World.grownBy (((w.alloc (.cells #[.int .i64 0, .int .i64 0, .slice none 0 0, .slice none 0 0] 78)).alloc (.cells #[.int .i64 tapes, .int .i64 0, .slice none 0 0, .slice none 0 0] 78)).alloc (.map #[] 0)) w1 (some (w.heap.size + 1 + 1))) :
  GI w (w1.alloc (.cells #[.int .i64 start] 3)) tapes (fun k => if k = w.heap.size + 1 then 4 else if k = w.heap.size + 2 then 5 else if k = w.heap.size then 6 else 1) (.slice (some ⟨w1.heap.size, 0, none⟩) 1 1) [start] [start] (.slice none 0 0) [] (.slice none 0 0) [] := by
 have hsz : w.heap.size + 3 ≤ w1.heap.size := by have := hg.size; simp at this; omega
 have hB : Below w.heap.size w w1 := by
  refine Below.trans ((((Below.refl _ w).alloc (Nat.le_refl _) _).alloc (by simp) _).alloc (by simp; omega) _) ⟨hg.os, hg.tape, hg.output, hg.size, fun k hk => hg.block k (by simp; omega) (by simp; omega)⟩
 have hB2 := hB.alloc (by omega) (.cells #[.int .i64 start] 3)
 have h1 : w1.heap[w.heap.size + 1]? = some (.cells #[.int .i64 tapes, .int .i64 0, .slice none 0 0, .slice none 0 0] 78 (0, 0)) := by
  rw [hg.block _ (by simp) (by simp)]; exact blk_alloc (by have := blk_new (w.alloc (.cells #[.int .i64 0, .int .i64 0, .slice none 0 0, .slice none 0 0] 78)) (.cells #[.int .i64 tapes, .int .i64 0, .slice none 0 0, .slice none 0 0] 78); simpa using this) _
 have h0 : w1.heap[w.heap.size]? = some (.cells #[.int .i64 0, .int .i64 0, .slice none 0 0, .slice none 0 0] 78 (0, 0)) := by
  rw [hg.block _ (by simp; omega) (by simp; omega)]; exact blk_alloc (blk_alloc (blk_new w _) _) _
 refine ⟨⟨blk_alloc h1 _, by simp⟩, ⟨?_, by simp⟩, ⟨blk_alloc h0 _, by simp⟩, ?_, Kd.R_nil _ _ _ _ _, Kd.S_nil _ _ _ _ _, hB2, by simp, by simpa using hs, by simp⟩
 ·have := hown.alloc (.cells #[.int .i64 start] 3)
  simpa [idsD] using this
 ·exact R_one (d := Kd.int .i64) w1 start [.int .i64 start] _ rfl rfl (by omega) (by show (if w1.heap.size = _ then _ else _) = 1; rw [if_neg (by omega), if_neg (by omega), if_neg (by omega)])
theorem grow_int_calls {acc : Int → Option Bool} {next : Int → Int → Option Int} {W : Nat} {na nn : FuncId} {ca cn : Array Value} {tapes start : Int} {kw f : Nat} {as1 : List Bool} {rs1 : List (List Int)} (w : World)
  (hA : CloOK Tryd.prog w na ca (fun x : Int => #[.int .i64 x]) acc Value.bool) (hN : CloOK Tryd.prog w nn cn (fun x : Int × Int => #[.int .i64 x.1, .int .i64 x.2]) (fun x => next x.1 x.2) (Value.int .i64))
  (hw : impl_widthOf.f kw tapes = some (W : Int)) (hW : W ≤ 1000) (hs : inI64 start = true) (h : growL inI64 acc next W f [start] [] [] = some (as1, rs1)) :
  Calls Tryd.prog 198 #[.int .i64 tapes, .int .i64 start, .int .i64 0, .func (.func na) #[] ca, .func (.func nn) #[] cn] w (GrowPost w tapes as1 rs1) := by
 have HA := am hA; have HN := am hN; have HW := am hw; have HH := am h; have HS := am hs; clear hA hN hw h hs; have hmm := @run_makeMap Tryd.prog; have hown0 : (((w.alloc (.cells #[.int .i64 0, .int .i64 0, .slice none 0 0, .slice none 0 0] 78)).alloc (.cells #[.int .i64 tapes, .int .i64 0, .slice none 0 0, .slice none 0 0] 78)).alloc (.map #[] 0)).ownsMap Tryd.prog 3 (plainElem Tryd.prog 3) (w.heap.size + 1 + 1) 0 (.map [] : DataW Unit) := made_at _ (by simp); obtain ⟨w1, hrun, hown1, hg1⟩ := hown0.update (Maps.int_keyed Tryd.underlying3) Tryd.underlying224 (by unfold maxLen; omega) (key := .int .i64 start) (val := .int .i64 0) (Maps.keyOf_int_mk Tryd.underlying3 (inI64_wf HS.out)) (plainElem_int Tryd.underlying3 (by decide)); have HO1 := am hown1; have HG1 := am hg1; clear hown0 hown1 hg1; obtain ⟨fa, ha1, ha2, ha3⟩ := HA.out.fn; obtain ⟨fb, hb1, hb2, hb3⟩ := HN.out.fn; have hea := fun args W' => enters_ (P := Tryd.prog) ha1 ha2 ha3 args W'; have heb := fun args W' => enters_ (P := Tryd.prog) hb1 hb2 hb3 args W'; clear ha1 ha2 ha3 hb1 hb2 hb3; go_enter Tryd.func198, Tryd.ntmps198; go_wp2; have HI := am (gi_start HS.out HO1.out HG1.out); clear HO1 HG1 hmm hrun
 generalize w1.alloc _ = W0 at HI ⊢
 generalize (Value.slice (some { block := w1.heap.size, off := 0 }) 1 1) = v0 at HI ⊢
 go_loopg [14, 15] f (fun kq v14 v15 w' => ∃ (own : Nat → Nat) (l : List Int) (va : Value) (bs : List Bool) (vr : Value) (rs : List (List Int)), v15 = .int .i64 (bs.length : Int) ∧ Aside0 (GI w w' tapes own v14 l l va bs vr rs) ∧ Aside0 (growL inI64 acc next W kq l bs rs = some (as1, rs1)) ∧ Aside0 (rs.length = bs.length))
 case atStart => exact ⟨_, [start], .slice none 0 0, [], .slice none 0 0, [], by simp, HI, HH, ⟨by simp⟩⟩
 case round =>
  clear HI HH; obtain ⟨own, l, va, bs, vr, rs, rfl, HI, HL, HRL⟩ := hrel
  cases gk with
  | zero => exact absurd HL.out (by simp [growL])
  | succ k1 =>
   have H := HL.out; clear HL; simp only [growL] at H
   cases hk : l[bs.length]? with
   | none =>
    rw [hk] at H; obtain ⟨rfl, rfl⟩ := Prod.mk.inj (Option.some.inj H); have hle : l.length ≤ bs.length := List.getElem?_eq_none_iff.1 hk; clear H hk; obtain ⟨⟨b1, -⟩, -, ⟨b0, -⟩, r14, rva, rvr, hB, -⟩ := HI.out; obtain ⟨A14, c14, rfl⟩ := Kd.R_slice r14; obtain ⟨Aa, cva, rfl⟩ := Kd.R_slice rva; obtain ⟨An, cvr, rfl⟩ := Kd.S_slice rvr; have c1 : decide ((bs.length : Int) < (l.length : Int)) = false := decide_eq_false (by omega); have c2 : decide (bs.length < l.length) = false := decide_eq_false (by omega); have RA := am rva; have RN := am rvr; have HB := am hB; have B0 := am b0; obtain ⟨m0, m1, m2, m3⟩ := bc4 b1; obtain ⟨n0, n1, n2, n3⟩ := bc4 b0; obtain ⟨f0, f1, f2, f3⟩ := bf4 b0; clear r14 rva rvr hB b1 b0 HI hle; go_wp2; refine bodyPost_ret (v := .tuple #[.agg #[.int .i64 tapes, .int .i64 0, .slice Aa bs.length cva, .slice An rs.length cvr], .bool true]) (by simp [results, Tryd.results198, go_sem, n0, n1, n2, n3]) rfl ⟨_, _, rfl, ?_, ?_, ?_⟩
    ·exact Kd.R_mono (R_set4 RA.out B0.out (by decide) _ _ _ _) (fun _ _ => trivial)
    ·exact Kd.S_mono (S_set4 RN.out B0.out (by decide) _ _ _ _) (fun _ _ => trivial)
    ·exact below_set4 HB.out (Nat.le_refl _) _ _ _ _
   | some k =>
    rw [hk] at H; simp only [] at H; obtain ⟨⟨l1, row1⟩, hrow, H⟩ := oB H; obtain ⟨a1, hacc, H⟩ := oB H; obtain ⟨g, c14, rfl, hcell⟩ := gi_at HI.out hk; have hlt : bs.length < l.length := (List.getElem?_eq_some_iff.1 hk).1; have c1 : decide ((bs.length : Int) < (l.length : Int)) = true := decide_eq_true (by omega); have c2 : decide (bs.length < l.length) = true := decide_eq_true (by omega); have HR := am hrow; have HC := am hacc; have HG := am H; clear H hrow hacc hk; go_wp2
    go_loopg [14, 17, 18] W (fun kq v14 v17 v18 w' => ∃ (own : Nat → Nat) (l' : List Int) (row : List Int) (c : Nat), v18 = .int .i64 (c : Int) ∧ Aside0 (c + kq = W) ∧ Aside0 (GI w w' tapes own v14 l' l' va bs vr rs ∧ (Kd.int .i64).R 3 w' w.heap.size (fun k => own k = 7) v17 row) ∧ Aside0 (growRow inI64 (next k) kq (c : Int) l' row = some (l1, row1)) ∧ Aside0 (row.length = c ∧ bs.length ≤ l'.length ∧ bs.length < l'.length))
    case atStart => exact ⟨own, l, [], 0, by simp, ⟨by omega⟩, ⟨HI.out, Kd.R_nil _ _ _ _ _⟩, ⟨HR.out⟩, ⟨rfl, by omega, hlt⟩⟩
    case round =>
     clear HI HR hcell c1 c2 hlt; obtain ⟨own, l', row, c, rfl, HCW, HI2, HR2, HN2⟩ := hrel
     cases gk with
     | zero =>
      have e := HR2.out; simp only [growRow] at e; obtain ⟨rfl, rfl⟩ := Prod.mk.inj (Option.some.inj e); have hcw := HCW.out; have c1 : decide ((c : Int) < (W : Int)) = false := decide_eq_false (by omega); have c2 : decide (c < W) = false := decide_eq_false (by omega); clear e HR2 hcw
      go_wp2_with (first | (go_at_call 128; (with_reducible refine (impl_widthOf.calls kw tapes (W : Int) _ HW.out).mono ?_); rintro e w' ⟨rfl, ⟨nd, rfl⟩⟩))
      have HI3 := am ((HI2.out.1.below (pw_below_drewN (Below.refl _ _) nd)).below (below_drew (Below.refl _ _))); have HR3 := am (Kd.R_below (Kd.R_below HI2.out.2 (pw_below_drewN (Below.refl _ _) nd)) (below_drew (Below.refl _ _))); obtain ⟨Aa, cva, hva⟩ := Kd.R_slice HI3.out.2.2.2.2.1; subst hva; have hS : (wr.drewN nd).drew.cell? ⟨w.heap.size + 1, 2, none⟩ = some (.slice Aa bs.length cva) := (blk_cell HI3.out.1.1 2).trans rfl; clear HI2; refine start_ (n := 9) (S := fun w' => w'.cell? ⟨w.heap.size + 1, 2, none⟩ = some (.slice Aa bs.length cva)) (ds := [8]) #[false, false, false, false, false, false, false, false, false] (by kernel_rfl) rfl rfl hS (fun hHeld => ?_)
      generalize (wr.drewN nd).drew = w3 at HI3 HR3 hS hHeld ⊢
      refine pureA 0 (some 79) (bl 9 1) rfl rfl (h := ?_); refine take_ (i := 1) (N := some 80) (v := ?_) (a' := ?_) #[true, true, false, false, false, false, false, false, false] rfl rfl (by kernel_rfl) (fun _ _ _ h => h) (Or.inl ⟨by rfl, ?_⟩) hHeld ?_ ?_; rotate_left
      ·intro w' s0; go_simp; (with_reducible rfl)
      rotate_left
      ·simp only [Act.put, List.setIfInBounds_toArray, List.set_cons_zero, List.set_cons_succ]; rfl
      refine pureA 2 (some 81) (bl 9 7) rfl rfl (h := ?_); refine pureA 3 (some 82) (bl 9 15) rfl rfl (h := ?_); refine oneA 4 (some 83) (bl 9 31) rfl rfl (fun K hK => ?_); obtain ⟨fa, ha1, ha2, ha3⟩ := HA.out.fn; refine call_ na (#[.int .i64 k] ++ ca) (by rfl) rfl (runs_val ha1 ha2 ha3 _ rfl rfl (by (try simp only [List.map_toArray, List.map_cons, List.map_nil]); rfl)) ?_; refine (HA.out.run k a1 w3 HI3.out.2.2.2.2.2.2.1 HC.out).mono ?_; rintro e w4 ⟨rfl, hb4⟩; refine ⟨_, rfl, ?_⟩; have HI4 := am (HI3.out.below hb4); have HR4 := am (Kd.R_below HR3.out hb4); clear HI3 HR3 hS hHeld hb4; refine hK.out _ _ ((blk_cell HI4.out.1.1 2).trans rfl) (fun hHeld => ?_); clear hK K; refine normA (h := ?_); refine oneA 5 (some 84) (bl 9 63) rfl rfl (fun K hK => ?_); refine value_ (v := .slice (some ⟨w4.heap.size, 0, none⟩) 1 1) (w1 := w4.alloc (.cells #[.bool a1] 4)) (by rfl) rfl ?_ ?_
      ·go_simp
      refine hK.out _ _ ((blk_cell (blk_alloc HI4.out.1.1 _) 2).trans rfl) (fun hHeld => ?_); clear hK K; refine normA (h := ?_); refine oneA 6 (some 85) (bl 9 127) rfl rfl (fun K hK => ?_); refine Kd.R_append_step Kd.bool (w0 := w) w.heap.size (by rfl) (.tmp 80) (.tmp 84) 35 4 (.bool false) 1 rfl Tryd.underlying35 info4 rfl (by decide) (by omega) (.slice Aa bs.length cva) bs a1 [.bool a1] (fun k => retag own w4.heap.size 2 k = 2) (fun _ => False) rfl rfl rfl (fun _ hk => hk.elim) (fun _ hk => retag_ge hk) (R_tag HI4.out.2.2.2.2.1 2) HI4.out.2.2.2.2.2.2.1 HI4.out.2.2.2.2.2.2.1.size (by have := HN2.out.2.1; have := HI4.out.2.2.2.2.2.2.2.2.2; omega) ?_; intro v5 w5 ho hb hg hat; obtain ⟨A5, c5, hv5⟩ := Kd.R_slice ho; subst hv5; have b5 := GI.box HI4.out hg; have HI5 := am (GI.acc HI4.out ho hb hg); have HR5 := am (Kd.R_far (p := ⟨w.heap.size + 1, 2, none⟩) (R_otherT (t := 2) HR4.out hg (R_rowT HI4.out.2.2.2.2.1) (by omega)) (fun k hk he => by have := HI5.out.1.2; rw [he] at hk; simp only at hk; omega) (.slice A5 (bs ++ [a1]).length c5)); obtain ⟨-, -, m5, -⟩ := bc4 b5; have f5 := blk_frozen b5 2; clear HI4 HR4 ho hb hg hat b5; refine hK.out _ _ m5 (fun hHeld => ?_); clear hK K; refine normA (h := ?_); refine oneA 7 (some 86) (bl 9 255) rfl rfl (fun K hK => ?_); refine value_ (v := .pointer (some ⟨w.heap.size + 1, 2, none⟩)) (w1 := w5) (by rfl) rfl ?_ ?_
      ·go_simp
      refine hK.out _ _ m5 (fun hHeld => ?_); clear hK K; refine normA (h := ?_); refine last_ (i := 8) (N := none) (bl 9 511) rfl rfl (by kernel_rfl) (by decide) (fun K hK => ?_); refine skip_ (w1 := w5.setCell ⟨w.heap.size + 1, 2, none⟩ (.slice A5 (bs ++ [a1]).length c5)) (by rfl) rfl ?_ ?_
      ·go_simp
      refine hK.out _ _ ?_; clear hK K; refine done_ (by kernel_rfl) ?_; clear m5 f5 hHeld
      generalize w5.setCell _ _ = w6 at HI5 HR5 ⊢
      obtain ⟨An, cvr, hvr⟩ := Kd.S_slice HI5.out.2.2.2.2.2.1; subst hvr; obtain ⟨Ar, cr, hr17⟩ := Kd.R_slice HR5.out; subst hr17; obtain ⟨-, -, -, m3⟩ := bc4 HI5.out.1.1; (have hrl : row.length < 1000000 := by have := HN2.out.1; have := HCW.out; omega)
      go_wp2_with (first | ((with_reducible refine gate_builtin (b := .append) (xs := #[.tmp 88, .tmp 90]) rfl ?_); at_builtin; refine Kd.S_append (Kd.slice 3 (Kd.int .i64)) (w0 := w) w.heap.size rfl (.tmp 88) (.tmp 90) 76 68 (.slice none 0 0) 24 rfl Tryd.underlying76 infoG68 rfl (by decide) (by omega) (.slice An rs.length cvr) rs row [.slice Ar row.length cr] (fun k => retag (retag own w4.heap.size 2) w6.heap.size 3 k = 3 ∨ retag (retag own w4.heap.size 2) w6.heap.size 3 k = 7) (fun k => retag (retag own w4.heap.size 2) w6.heap.size 3 k = 7) rfl rfl ?aP ?aK ?aF ?aO ?aB ?aS ?aL ?_; (case aP => exact ⟨_, rfl, R_tag HR5.out 3⟩); (case aK => intro k hk; exact ⟨Or.inr hk, fun he => by have := S_rowT HI5.out.2.2.2.2.2.1 k he.symm; omega⟩); (case aF => exact (fun _ hk => Or.inl (retag_ge hk))); (case aO => exact Kd.S_mono (S_tagged HI5.out.2.2.2.2.2.1 3) (fun k hk => ⟨Or.inl hk, by omega⟩)); (case aB => exact HI5.out.2.2.2.2.2.2.1); (case aS => exact HI5.out.2.2.2.2.2.2.1.size); (case aL => have := HN2.out.2.1; have := HI5.out.2.2.2.2.2.2.2.2.2; have := HRL.out; omega); intro v7 w7 ho hb hg hat; obtain ⟨A7, c7, hv7⟩ := Kd.S_slice ho; subst hv7; have b7 := GI.boxN HI5.out hg; have HI6 := am (GI.nxt HI5.out ho hb hg); obtain ⟨-, -, -, m7⟩ := bc4 b7; have f7 := blk_frozen b7 3; clear HI5 HR5 ho hb hg hat b7 m3))
      go_roundg k1
      case measure => omega
      case rel =>
       have q1 := HN2.out.2.1; have q2 := HI6.out.2.2.2.2.2.2.2.2.2; exact ⟨_, l', _, bs ++ [a1], _, rs ++ [row], by rw [show (bs ++ [a1]).length = bs.length + 1 by simp, show wrap64 ((bs.length : Int) + 1) = (bs.length : Int) + 1 by unfold wrap64; omega]; rfl, by have h_ := HI6; rw [show (rs ++ [row]).length = rs.length + 1 by simp] at h_; exact h_, ⟨by have h_ := HG.out; simpa using h_⟩, ⟨by have := HRL.out; simp; omega⟩⟩
     | succ k2 =>
      have H := HR2.out; simp only [growRow] at H; obtain ⟨x, hnx, H⟩ := oB H; have hcw := HCW.out; have c1 : decide ((c : Int) < (W : Int)) = true := decide_eq_true (by omega); have c2 : decide (c < W) = true := decide_eq_true (by omega); (have b1 : c < 1000 := by omega); clear hcw HR2; by_cases hg : inI64 x = true
      ·rw [if_pos hg] at H; have HX := am hg; have HNX := am hnx; clear hg hnx; obtain ⟨A14, c14', hv14⟩ := Kd.R_slice HI2.out.1.2.2.2.1; subst hv14; by_cases hm : x ∈ l'
       ·rw [if_pos hm] at H; have HM := am hm; have H' := am H; clear hm H
        go_wp2_with (first | (go_at_call 128; (with_reducible refine (impl_widthOf.calls kw tapes (W : Int) _ HW.out).mono ?_); rintro e w' ⟨rfl, ⟨nd, rfl⟩⟩))
        refine (HN.out.run (k, (c : Int)) x _ ?hB HNX.out).mono ?_
        case hB => exact pw_below_drewN HI2.out.1.2.2.2.2.2.2.1 _
        rintro e w2 ⟨rfl, hb2⟩; have HI3 := am ((HI2.out.1.below (pw_below_drewN (Below.refl _ _) nd)).below hb2); have HR3 := am (Kd.R_below (Kd.R_below HI2.out.2 (pw_below_drewN (Below.refl _ _) nd)) hb2); clear hb2 HI2
        go_wp2_with (first | (at_lookup; refine wpList_ids_look _ rfl _ _ 224 rfl lit_inj lit_key (Maps.int_keyed Tryd.underlying3) Tryd.underlying224 Tryd.underlying3 (zero_int _) rfl HI3.out.2.1.1 HI3.out.2.2.2.2.2.2.2.1 _ x rfl (Maps.keyOf_int_mk Tryd.underlying3 (inI64_wf HX.out)) _ true (if_pos HM.out) (decide_eq_true HM.out) ?_) | ((with_reducible refine gate_builtin (b := .append) (xs := #[.tmp 75, .tmp 77]) rfl ?_); at_builtin; refine Kd.R_append (Kd.int .i64) (w0 := w) w.heap.size rfl (.tmp 75) (.tmp 77) 68 3 (.int .i64 0) 8 rfl Tryd.underlying68 info3 rfl (by decide) (by omega) u17 row ((l'.idxOf x : Nat) : Int) [.int .i64 ((l'.idxOf x : Nat) : Int)] (fun k => retag own w2.heap.size 7 k = 7) (fun _ => False) rfl rfl ?aP (fun _ hk => hk.elim) ?aF ?aO ?aB ?aS ?aL ?_; (case aP => exact rfl); (case aB => exact HI3.out.2.2.2.2.2.2.1); (case aF => exact (fun _ hk => retag_ge hk)); (case aO => exact R_tag HR3.out 7); (case aS => exact HI3.out.2.2.2.2.2.2.1.size); (case aL => have := HN2.out.1; omega); intro v5 w5 ho hb hg hat; have n0_ := am (GI.other HI3.out hg (R_rowT HR3.out) hb (by omega)); have n1_ := am ho; clear HI3 HR3 ho hb hg hat))
        go_roundg k2
        case measure => omega
        case rel => exact ⟨retag own w2.heap.size 7, l', row ++ [((l'.idxOf x : Nat) : Int)], c + 1, by go_num, ⟨by have := HCW.out; omega⟩, ⟨n0_.out, n1_.out⟩, ⟨by have h_ := H'.out; rwa [show (c : Int) + 1 = ((c + 1 : Nat) : Int) by omega] at h_⟩, ⟨by simp [HN2.out.1], HN2.out.2⟩⟩
       ·rw [if_neg hm] at H; by_cases hl : l'.length < 1900000
        ·rw [if_pos hl] at H; have HM := am hm; have HL2 := am hl; have H' := am H; clear hm H
         go_wp2_with (first | (go_at_call 128; (with_reducible refine (impl_widthOf.calls kw tapes (W : Int) _ HW.out).mono ?_); rintro e w' ⟨rfl, ⟨nd, rfl⟩⟩))
         refine (HN.out.run (k, (c : Int)) x _ ?hB HNX.out).mono ?_
         case hB => exact pw_below_drewN HI2.out.1.2.2.2.2.2.2.1 _
         rintro e w2 ⟨rfl, hb2⟩; have HI3 := am ((HI2.out.1.below (pw_below_drewN (Below.refl _ _) nd)).below hb2); have HR3 := am (Kd.R_below (Kd.R_below HI2.out.2 (pw_below_drewN (Below.refl _ _) nd)) hb2); clear hb2 HI2
         go_wp2_with (first | (at_lookup; refine wpList_ids_look _ rfl _ _ 224 rfl lit_inj lit_key (Maps.int_keyed Tryd.underlying3) Tryd.underlying224 Tryd.underlying3 (zero_int _) rfl HI3.out.2.1.1 HI3.out.2.2.2.2.2.2.2.1 _ x rfl (Maps.keyOf_int_mk Tryd.underlying3 (inI64_wf HX.out)) _ false (if_neg HM.out) (decide_eq_false HM.out) ?_) | (at_mapUpdate; refine wpList_ids_put _ rfl _ _ _ 224 rfl (Maps.int_keyed Tryd.underlying3) Tryd.underlying224 Tryd.underlying3 rfl HI3.out.2.1.1 ?uM _ x rfl (Maps.keyOf_int_mk Tryd.underlying3 (inI64_wf HX.out)) rfl ?uL ?_; (case uM => unfold maxLen; omega); (case uL => omega); intro w3 hown3 hg3; have hq := GI.put HI3.out HM.out HX.out HL2.out hown3 hg3; have HI4 := am hq.1; have HR4 := am (R_otherT (t := 5) HR3.out hg3 hq.2 (by omega)); clear HI3 HR3 hq hown3 hg3) | ((with_reducible refine gate_builtin (b := .append) (xs := #[.tmp 62, .tmp 64]) rfl ?_); at_builtin; refine Kd.R_append (Kd.int .i64) (w0 := w) w.heap.size rfl (.tmp 62) (.tmp 64) 68 3 (.int .i64 0) 8 rfl Tryd.underlying68 info3 rfl (by decide) (by omega) (.slice A14 l'.length c14') l' x [.int .i64 x] (fun k => retag (retag own w2.heap.size 5) w3.heap.size 1 k = 1) (fun _ => False) rfl rfl ?aP (fun _ hk => hk.elim) ?aF ?aO ?aB ?aS ?aL ?_; (case aP => exact rfl); (case aB => exact HI4.out.2.2.2.2.2.2.1); (case aF => exact (fun _ hk => retag_ge hk)); (case aO => exact R_tag HI4.out.2.2.2.1 1); (case aS => exact HI4.out.2.2.2.2.2.2.1.size); (case aL => omega); intro v4 w4 ho hb hg hat; have HI5 := am (GI.push HI4.out ho hb hg); have HR5 := am (R_otherT (t := 1) HR4.out hg (R_rowT HI4.out.2.2.2.1) (by omega)); clear HI4 HR4 ho hb hg hat) | ((with_reducible refine gate_builtin (b := .append) (xs := #[.tmp 75, .tmp 77]) rfl ?_); at_builtin; refine Kd.R_append (Kd.int .i64) (w0 := w) w.heap.size rfl (.tmp 75) (.tmp 77) 68 3 (.int .i64 0) 8 rfl Tryd.underlying68 info3 rfl (by decide) (by omega) u17 row (l'.length : Int) [.int .i64 (l'.length : Int)] (fun k => retag (retag (retag own w2.heap.size 5) w3.heap.size 1) w4.heap.size 7 k = 7) (fun _ => False) rfl rfl ?aP (fun _ hk => hk.elim) ?aF ?aO ?aB ?aS ?aL ?_; (case aP => exact rfl); (case aB => exact HI5.out.2.2.2.2.2.2.1); (case aF => exact (fun _ hk => retag_ge hk)); (case aO => exact R_tag HR5.out 7); (case aS => exact HI5.out.2.2.2.2.2.2.1.size); (case aL => have := HN2.out.1; omega); intro v5 w5 ho hb hg hat; have n0_ := am (GI.other HI5.out hg (R_rowT HR5.out) hb (by omega)); have n1_ := am ho; clear HI5 HR5 ho hb hg hat))
         go_roundg k2
         case measure => omega
         case rel => exact ⟨_, l' ++ [x], row ++ [(l'.length : Int)], c + 1, by go_num, ⟨by have := HCW.out; omega⟩, ⟨n0_.out, n1_.out⟩, ⟨by have h_ := H'.out; rwa [show (c : Int) + 1 = ((c + 1 : Nat) : Int) by omega] at h_⟩, ⟨by simp [HN2.out.1], by have := HN2.out.2; simp; omega⟩⟩
        ·rw [if_neg hl] at H; cases H
      ·rw [if_neg hg] at H; cases H
/-- A machine in memory, and its rows. -/
def MachAt (W : World) (g : Nat) (tapes start : Int) (ac : List Bool) (ns : List (List Int)) : Prop :=
 ∃ Aa ca An cn, W.heap[g]? = some (.cells #[.int .i64 tapes, .int .i64 start, .slice Aa ac.length ca, .slice An ns.length cn] 78 (0, 0)) ∧ Kd.C Kd.bool W Aa ac.length ac ∧ Kd.C (Kd.slice 3 (Kd.int .i64)) W An ns.length ns
/-- A variable that holds a row of numbers. -/
def VarAt (W : World) (g : Nat) (l : List Int) : Prop :=
 ∃ A c, W.heap[g]? = some (.cells #[.slice A l.length c] 68 (0, 0)) ∧ Kd.C (Kd.int .i64) W A l.length l
theorem MachAt.below {W W1 : World} {g : Nat} {tapes start : Int} {ac : List Bool} {ns : List (List Int)} (h : MachAt W g tapes start ac ns) (hb : Below W.heap.size W W1) : MachAt W1 g tapes start ac ns := by
 obtain ⟨Aa, ca, An, cn, h1, h2, h3⟩ := h; exact ⟨Aa, ca, An, cn, blk_below h1 hb, Kd.C_below h2 hb, Kd.C_below h3 hb⟩
theorem VarAt.below {W W1 : World} {g : Nat} {l : List Int} (h : VarAt W g l) (hb : Below W.heap.size W W1) : VarAt W1 g l := by
 obtain ⟨A, c, h1, h2⟩ := h; exact ⟨A, c, blk_below h1 hb, Kd.C_below h2 hb⟩
def accM (one : List Int) (ac : List Bool) (x : Int) : Option Bool := if 0 ≤ x then (if x < (one.length : Int) then (if 0 ≤ rd one x then (if rd one x < (ac.length : Int) then some (rdOf false ac (rd one x)) else none) else none) else none) else none
theorem merged1_clo {w : World} {gm go : Nat} {tapes start : Int} {ac : List Bool} {ns : List (List Int)} {one : List Int} (hm : MachAt w gm tapes start ac ns) (ho : VarAt w go one) :
  CloOK Tryd.prog w 199 #[.pointer (some ⟨gm, 0, none⟩), .pointer (some ⟨go, 0, none⟩)] (fun x : Int => #[.int .i64 x]) (accM one ac) Value.bool := by
 refine ⟨⟨_, Tryd.func199, by kernel_rfl, rfl⟩, fun x r W hb h => ?_⟩; obtain ⟨Aa, ca, An, cn, b1, hC1, hC2⟩ := hm.below hb; obtain ⟨Ao, co, b2, hCo⟩ := ho.below hb; clear hm ho hb; unfold accM at h; by_cases p0 : 0 ≤ x
 ·rw [if_pos p0] at h; by_cases q0 : x < (one.length : Int)
  ·rw [if_pos q0] at h; by_cases p1 : 0 ≤ rd one x
   ·rw [if_pos p1] at h; by_cases q1 : rd one x < (ac.length : Int)
    ·rw [if_pos q1] at h; obtain rfl := Option.some.inj h; clear h; obtain ⟨ad1, e1, hx1⟩ := Kd.at_int hCo x p0 q0; obtain ⟨ad2, e2, hx2⟩ := Kd.at_bool hC1 (rd one x) p1 q1; subst e1; subst e2; obtain ⟨-, -, m2, -⟩ := bc4 b1; have v0 : W.cell? ⟨go, 0, none⟩ = some (.slice (some ad1) one.length co) := (blk_cell b2 0).trans rfl; replace p0 := eq_true p0; replace q0 := eq_true q0; replace p1 := eq_true p1; replace q1 := eq_true q1; clear b1 b2 hC1 hC2 hCo; go_enter Tryd.func199, Tryd.ntmps199; go_wp2
     repeat (go_quiet (fail); try go_wp2)
     go_ret; exact ⟨rfl, by repeat (first | exact Below.refl _ _ | apply pw_below_drewN | apply below_drew1)⟩
    ·rw [if_neg q1] at h; cases h
   ·rw [if_neg p1] at h; cases h
  ·rw [if_neg q0] at h; cases h
 ·rw [if_neg p0] at h; cases h
def rdR (xs : List (List Int)) (i : Int) : List Int := xs.getD i.toNat []
theorem at_rows {e : TypeId} {w : World} {A : Option Addr} {n : Nat} {xs : List (List Int)} (h : Kd.C (Kd.slice e (Kd.int .i64)) w A n xs) (i : Int) (h0 : 0 ≤ i) (h1 : i < n) : ∃ ad A0 c0, A = some ad ∧ w.cell? (ad.add i.toNat) = some (.slice A0 (rdR xs i).length c0) ∧ (rdR xs i).length ≤ c0 ∧ (Kd.int .i64).C w A0 (rdR xs i).length (rdR xs i) := by
 obtain ⟨ad, c, e', _, ⟨A0, c0, rfl, hl, hC⟩, hc⟩ := Kd.C_get h [] i h0 h1; have := hc 0 _ rfl; rw [show i.toNat * (Kd.slice e (Kd.int .i64)).sz + 0 = i.toNat by simp [show (Kd.slice e (Kd.int .i64)).sz = 1 from rfl]] at this; exact ⟨ad, A0, c0, e', this, hl, hC⟩
/-- A bounds-checked read. -/
def at1 {α : Type} (d : α) (xs : List α) (i : Int) : Option α := if 0 ≤ i ∧ i < (xs.length : Int) then some (rdOf d xs i) else none
def nextM (group one : List Int) (ns : List (List Int)) (g c : Int) : Option Int :=
 (at1 0 one g).bind fun i => (at1 [] ns i).bind fun row => (at1 0 row c).bind fun j => at1 0 group j
theorem at1_some {α : Type} {d : α} {xs : List α} {i : Int} {r : α} (h : at1 d xs i = some r) : 0 ≤ i ∧ i < (xs.length : Int) ∧ r = rdOf d xs i := by
 unfold at1 at h
 split at h
 ·next hc => exact ⟨hc.1, hc.2, (Option.some.inj h).symm⟩
 ·cases h
theorem merged2_clo {w : World} {gm go gg : Nat} {tapes start : Int} {ac : List Bool} {ns : List (List Int)} {one group : List Int} (hm : MachAt w gm tapes start ac ns) (ho : VarAt w go one) (hg : VarAt w gg group) :
  CloOK Tryd.prog w 200 #[.pointer (some ⟨gg, 0, none⟩), .pointer (some ⟨gm, 0, none⟩), .pointer (some ⟨go, 0, none⟩)] (fun x : Int × Int => #[.int .i64 x.1, .int .i64 x.2]) (fun x => nextM group one ns x.1 x.2) (Value.int .i64) := by
 refine ⟨⟨_, Tryd.func200, by kernel_rfl, rfl⟩, fun x r W hb h => ?_⟩; obtain ⟨Aa, ca, An, cn, b1, hC1, hC2⟩ := hm.below hb; obtain ⟨Ao, co, b2, hCo⟩ := ho.below hb; obtain ⟨Ag, cg, b3, hCg⟩ := hg.below hb; clear hm ho hg hb; obtain ⟨x, c⟩ := x; have h' : nextM group one ns x c = some r := h; clear h; obtain ⟨i, h1, h⟩ := oB h'; obtain ⟨row, h2, h⟩ := oB h; obtain ⟨j, h3, h4⟩ := oB h; clear h' h; obtain ⟨p0, q0, ei⟩ := at1_some h1; obtain ⟨p1, q1, er⟩ := at1_some h2; obtain ⟨p2, q2, ej⟩ := at1_some h3; obtain ⟨p3, q3, eo⟩ := at1_some h4; clear h1 h2 h3 h4; obtain ⟨ad1, e1, hx1⟩ := Kd.at_int hCo x p0 q0; obtain ⟨ad2, A2, c2, e2, hx2, hl2, hC3⟩ := at_rows hC2 i p1 q1; rw [show rdR ns i = row from er.symm] at hx2 hl2 hC3; obtain ⟨ad3, e3, hx3⟩ := Kd.at_int hC3 c p2 q2; obtain ⟨ad4, e4, hx4⟩ := Kd.at_int hCg j p3 q3; subst e1; subst e2; subst e3; subst e4; rw [show rd one x = i from ei.symm] at hx1; rw [show rd row c = j from ej.symm] at hx3; rw [show rd group j = r from eo.symm] at hx4; obtain ⟨-, -, -, m3⟩ := bc4 b1; have v0 : W.cell? ⟨go, 0, none⟩ = some (.slice (some ad1) one.length co) := (blk_cell b2 0).trans rfl; have v1 : W.cell? ⟨gg, 0, none⟩ = some (.slice (some ad4) group.length cg) := (blk_cell b3 0).trans rfl; clear b1 b2 b3 hC1 hC2 hC3 hCo hCg ei er ej eo; replace p0 := eq_true p0; replace q0 := eq_true q0; replace p1 := eq_true p1; replace q1 := eq_true q1; replace p2 := eq_true p2; replace q2 := eq_true q2; replace p3 := eq_true p3; replace q3 := eq_true q3; show Calls Tryd.prog 200 #[.int .i64 x, .int .i64 c, .pointer (some ⟨gg, 0, none⟩), .pointer (some ⟨gm, 0, none⟩), .pointer (some ⟨go, 0, none⟩)] W fun e W' => e = .returned (.int .i64 r) ∧ Below W.heap.size W W'; go_enter Tryd.func200, Tryd.ntmps200; go_wp2
 repeat (go_quiet (fail); try go_wp2)
 go_ret; exact ⟨rfl, by repeat (first | exact Below.refl _ _ | apply pw_below_drewN | apply below_drew1)⟩
def accT (ac : List Bool) (p : Int × Int) : Option Bool := if 0 ≤ p.2 then at1 false ac p.1 else some false
theorem tidy1_clo {w : World} {gm : Nat} {tapes start : Int} {ac : List Bool} {ns : List (List Int)} (hm : MachAt w gm tapes start ac ns) :
  CloOK Tryd.prog w 169 #[.pointer (some ⟨gm, 0, none⟩)] (fun x : Int × Int => #[.agg #[.int .i64 x.1, .int .i64 x.2]]) (accT ac) Value.bool := by
 refine ⟨⟨_, Tryd.func169, by kernel_rfl, rfl⟩, fun x r W hb h => ?_⟩; obtain ⟨Aa, ca, An, cn, b1, hC1, hC2⟩ := hm.below hb; clear hm hb; obtain ⟨s, p⟩ := x; have h' : (if 0 ≤ p then at1 false ac s else some false) = some r := h; clear h; show Calls Tryd.prog 169 #[.agg #[.int .i64 s, .int .i64 p], .pointer (some ⟨gm, 0, none⟩)] W fun e W' => e = .returned (.bool r) ∧ Below W.heap.size W W'; by_cases c : 0 ≤ p
 ·rw [if_pos c] at h'; obtain ⟨p0, q0, e0⟩ := at1_some h'; obtain ⟨ad1, e1, hx1⟩ := Kd.at_bool hC1 s p0 q0; subst e1; rw [show rdOf false ac s = r from e0.symm] at hx1; obtain ⟨-, -, m2, -⟩ := bc4 b1; have m2' : (W.alloc (.cells #[.int .i64 s, .int .i64 p] 187)).cell? ⟨gm, 2, none⟩ = some (.slice (some ad1) ac.length ca) := pw_cell_below (below_alloc (Below.refl _ _) _) m2; have hx1' : (W.alloc (.cells #[.int .i64 s, .int .i64 p] 187)).cell? (ad1.add s.toNat) = some (.bool r) := pw_cell_below (below_alloc (Below.refl _ _) _) hx1; clear m2 hx1; have c1 : decide (p ≥ 0) = true := decide_eq_true c; have c2 : decide (0 ≤ p) = true := decide_eq_true c; clear b1 hC1 hC2 h' e0 c; replace p0 := eq_true p0; replace q0 := eq_true q0; go_enter Tryd.func169, Tryd.ntmps169; go_wp2
  repeat (go_quiet (fail); try go_wp2)
  go_ret; exact ⟨rfl, by repeat (first | exact Below.refl _ _ | apply below_alloc | apply pw_below_drewN | apply below_drew1)⟩
 ·rw [if_neg c] at h'; obtain rfl := Option.some.inj h'; have c1 : decide (p ≥ 0) = false := decide_eq_false c; have c2 : decide (0 ≤ p) = false := decide_eq_false c; clear b1 hC1 hC2 h' c; go_enter Tryd.func169, Tryd.ntmps169; go_wp2
  repeat (go_quiet (fail); try go_wp2)
  go_ret; exact ⟨rfl, by repeat (first | exact Below.refl _ _ | apply below_alloc | apply pw_below_drewN | apply below_drew1)⟩
def nextT (pads : List Int) (ns : List (List Int)) (x : Int × Int) (c : Int) : Option (Int × Int) :=
 if x.2 < 0 then some (0, -1) else (at1 0 pads c).bind fun pc => if bits .andNot .i64 x.2 pc = 0 then ((at1 [] ns x.1).bind fun row => (at1 0 row c).bind fun q => some (q, pc)) else some (0, -1)
theorem tidy2_clo {w : World} {gm gp : Nat} {tapes start : Int} {ac : List Bool} {ns : List (List Int)} {pads : List Int} (hm : MachAt w gm tapes start ac ns) (hp : VarAt w gp pads) :
  CloOK Tryd.prog w 170 #[.pointer (some ⟨gp, 0, none⟩), .pointer (some ⟨gm, 0, none⟩)] (fun x : (Int × Int) × Int => #[.agg #[.int .i64 x.1.1, .int .i64 x.1.2], .int .i64 x.2]) (fun x => nextT pads ns x.1 x.2) (fun r : Int × Int => .agg #[.int .i64 r.1, .int .i64 r.2]) := by
 refine ⟨⟨_, Tryd.func170, by kernel_rfl, rfl⟩, fun x r W hb h => ?_⟩; obtain ⟨Aa, ca, An, cn, b1, hC1, hC2⟩ := hm.below hb; obtain ⟨Ap, cp, b2, hCp⟩ := hp.below hb; clear hm hp hb; obtain ⟨⟨s, p⟩, c⟩ := x; have h' : nextT pads ns (s, p) c = some r := h; clear h; unfold nextT at h'; show Calls Tryd.prog 170 #[.agg #[.int .i64 s, .int .i64 p], .int .i64 c, .pointer (some ⟨gp, 0, none⟩), .pointer (some ⟨gm, 0, none⟩)] W fun e W' => e = .returned (.agg #[.int .i64 r.1, .int .i64 r.2]) ∧ Below W.heap.size W W'; have HW : ∀ n, Below W.heap.size W (((W.alloc (.cells #[.int .i64 s, .int .i64 p] 187)).alloc (.cells #[.int .i64 0, .int .i64 0] 187)).drewN n) := fun n => pw_below_drewN (((Below.refl _ W).alloc (Nat.le_refl _) _).alloc (by simp) _) n; by_cases c0 : p < 0
 ·rw [if_pos c0] at h'; obtain rfl := Option.some.inj h'; have c1 : decide (p < 0) = true := decide_eq_true c0; clear h' c0 b1 b2 hC1 hC2 hCp; go_enter Tryd.func170, Tryd.ntmps170; go_wp2
  repeat (go_quiet (fail); try go_wp2)
  refine bodyPost_ret (v := .agg #[.int .i64 0, .int .i64 (-1)]) (by simp [results, Tryd.results170, go_sem]) rfl ⟨rfl, ?_⟩; exact ((HW _).setCell (by simp) _).setCell (by simp) _
 ·rw [if_neg c0] at h'; have c1 : decide (p < 0) = false := decide_eq_false c0; obtain ⟨pc, h1, h'⟩ := oB h'; obtain ⟨p0, q0, e0⟩ := at1_some h1; obtain ⟨ad4, e4, hx4⟩ := Kd.at_int hCp c p0 q0; subst e4; rw [show rd pads c = pc from e0.symm] at hx4; clear h1 e0 c0; generalize hWE : ((W.alloc (.cells #[.int .i64 s, .int .i64 p] 187)).alloc (.cells #[.int .i64 0, .int .i64 0] 187)) = WE at HW; (have hbE : Below W.heap.size W WE := by rw [← hWE]; exact ((Below.refl _ W).alloc (Nat.le_refl _) _).alloc (by simp) _); have x4 : WE.cell? (ad4.add c.toNat) = some (.int .i64 pc) := pw_cell_below hbE hx4; have v0 : WE.cell? ⟨gp, 0, none⟩ = some (.slice (some ad4) pads.length cp) := pw_cell_below hbE ((blk_cell b2 0).trans rfl); (have k0 : WE.heap[W.heap.size]? = some (.cells #[.int .i64 s, .int .i64 p] 187 (0, 0)) := by rw [← hWE]; exact blk_alloc (blk_new W _) _); (have k1 : WE.heap[W.heap.size + 1]? = some (.cells #[.int .i64 0, .int .i64 0] 187 (0, 0)) := by rw [← hWE]; have q_ := blk_new (W.alloc (.cells #[.int .i64 s, .int .i64 p] 187)) (.cells #[.int .i64 0, .int .i64 0] 187); simpa using q_); replace p0 := eq_true p0; replace q0 := eq_true q0; by_cases cz : bits .andNot .i64 p pc = 0
  ·rw [if_pos cz] at h'; obtain ⟨row, h2, h'⟩ := oB h'; obtain ⟨q, h3, h'⟩ := oB h'; obtain rfl := Option.some.inj h'; obtain ⟨p1, q1, e1⟩ := at1_some h2; obtain ⟨p2, q2, e2⟩ := at1_some h3; obtain ⟨ad2, A2, c2, e2', hx2, hl2, hC3⟩ := at_rows hC2 s p1 q1; rw [show rdR ns s = row from e1.symm] at hx2 hl2 hC3; obtain ⟨ad3, e3, hx3⟩ := Kd.at_int hC3 c p2 q2; subst e2'; subst e3; rw [show rd row c = q from e2.symm] at hx3; have m3 : WE.cell? ⟨gm, 3, none⟩ = some (.slice (some ad2) ns.length cn) := pw_cell_below hbE ((blk_cell b1 3).trans rfl); have x2 : WE.cell? (ad2.add s.toNat) = some (.slice (some ad3) row.length c2) := pw_cell_below hbE hx2; have x3 : WE.cell? (ad3.add c.toNat) = some (.int .i64 q) := pw_cell_below hbE hx3; have c3 : (bits .andNot .i64 p pc != 0) = false := bne_eq_false_iff_eq.mpr cz; have y0 := (blk_cell k0 0).trans rfl; replace y0 : WE.cell? ⟨W.heap.size, 0, none⟩ = some (.int .i64 s) := y0; have y1 : WE.cell? ⟨W.heap.size, 1, none⟩ = some (.int .i64 p) := (blk_cell k0 1).trans rfl; replace p1 := eq_true p1; replace q1 := eq_true q1; replace p2 := eq_true p2; replace q2 := eq_true q2; clear h2 h3 h' e1 e2 hl2 hx2 hx3 hx4 hC1 hC2 hC3 hCp b1 b2 cz; go_enter Tryd.func170, Tryd.ntmps170; go_wp2
   try rw [hWE]
   repeat (go_quiet (fail); try go_wp2)
   have hd : Below WE.heap.size WE ((WE.drewN nq).drew) := below_drew1 (pw_below_drewN (Below.refl _ _) nq); have HE := am (HW nq); have K1 := am (blk_below k1 hd); have HD := am (show Below W.heap.size W ((WE.drewN nq).drew) from below_drew1 (HW nq)); refine start_ (n := 15) (S := fun w' => w'.cell? ⟨gm, 3, none⟩ = some (.slice (some ad2) ns.length cn) ∧ w'.cell? ⟨W.heap.size, 0, none⟩ = some (.int .i64 s) ∧ w'.cell? (ad2.add s.toNat) = some (.slice (some ad3) row.length c2) ∧ w'.cell? (ad3.add c.toNat) = some (.int .i64 q) ∧ w'.cell? ⟨gp, 0, none⟩ = some (.slice (some ad4) pads.length cp) ∧ w'.cell? (ad4.add c.toNat) = some (.int .i64 pc)) (ds := [14]) #[false, false, false, false, false, false, false, false, false, false, false, false, false, false, false] (by kernel_rfl) rfl rfl ⟨pw_cell_below hd m3, pw_cell_below hd y0, pw_cell_below hd x2, pw_cell_below hd x3, pw_cell_below hd v0, pw_cell_below hd x4⟩ (fun hHeld => ?_); clear hd m3 y0 y1 x2 x3 v0 x4 k0 k1 hWE HW HE hbE
   generalize (WE.drewN nq).drew = w3 at K1 HD hHeld ⊢
   refine pureA 0 (some 21) (bl 15 1) rfl rfl (h := ?_); refine takeA6 1 (some 22) (bl 15 3) hHeld rfl rfl (h := ?_); refine pureA 2 (some 23) (bl 15 7) rfl rfl (h := ?_); refine takeA6 3 (some 24) (bl 15 15) hHeld rfl rfl (h := ?_); refine pureA 4 (some 25) (bl 15 31) rfl rfl (h := ?_); refine takeA6 5 (some 26) (bl 15 63) hHeld rfl rfl (h := ?_); refine pureA 6 (some 27) (bl 15 127) rfl rfl (h := ?_); refine pureA 7 (some 28) (bl 15 255) rfl rfl (h := ?_); refine takeA6 8 (some 29) (bl 15 511) hHeld rfl rfl (h := ?_); refine takeA6 9 (some 30) (bl 15 1023) hHeld rfl rfl (h := ?_); refine pureA 10 (some 31) (bl 15 2047) rfl rfl (h := ?_); refine pureA 11 (some 32) (bl 15 4095) rfl rfl (h := ?_); refine takeA6 12 (some 33) (bl 15 8191) hHeld rfl rfl (h := ?_); refine pureA 13 (some 34) (bl 15 16383) rfl rfl (h := ?_); refine last_ (i := 14) (N := none) (bl 15 32767) rfl rfl (by kernel_rfl) (by decide) (fun K hK => ?_); have z0 : w3.cell? ⟨W.heap.size + 1, 0, none⟩ = some (.int .i64 0) := (blk_cell K1.out 0).trans rfl; have z1 : w3.cell? ⟨W.heap.size + 1, 1, none⟩ = some (.int .i64 0) := (blk_cell K1.out 1).trans rfl; have f0 := blk_frozen K1.out 0; have f1 := blk_frozen K1.out 1; refine skip_ (w1 := (w3.setCell ⟨W.heap.size + 1, 0, none⟩ (.int .i64 q)).setCell ⟨W.heap.size + 1, 1, none⟩ (.int .i64 pc)) (by rfl) rfl ?_ ?_
   ·go_simp
   refine hK.out _ _ ?_; clear hK K; refine done_ (by kernel_rfl) ?_; go_wp2; refine bodyPost_ret (v := .agg #[.int .i64 q, .int .i64 pc]) (by simp [results, Tryd.results170, go_sem, z0, z1]) rfl ⟨rfl, ?_⟩; exact (HD.out.setCell (by simp) _).setCell (by simp) _
  ·rw [if_neg cz] at h'; obtain rfl := Option.some.inj h'; have c3 : (bits .andNot .i64 p pc != 0) = true := bne_iff_ne.mpr cz; have y1 : WE.cell? ⟨W.heap.size, 1, none⟩ = some (.int .i64 p) := (blk_cell k0 1).trans rfl; have z0 : WE.cell? ⟨W.heap.size + 1, 0, none⟩ = some (.int .i64 0) := (blk_cell k1 0).trans rfl; have z1 : WE.cell? ⟨W.heap.size + 1, 1, none⟩ = some (.int .i64 0) := (blk_cell k1 1).trans rfl; have f0 := blk_frozen k1 0; have f1 := blk_frozen k1 1; clear h' hx4 hC1 hC2 hCp b1 b2 cz; go_enter Tryd.func170, Tryd.ntmps170; go_wp2
   try rw [hWE]
   repeat (go_quiet (fail); try go_wp2)
   refine bodyPost_ret (v := .agg #[.int .i64 0, .int .i64 (-1)]) (by simp [results, Tryd.results170, go_sem, z0, z1]) rfl ⟨rfl, ?_⟩; exact ((HW _).setCell (by simp) _).setCell (by simp) _
end Go.Proofs.YtelicdmaohllgaaDoor.X
