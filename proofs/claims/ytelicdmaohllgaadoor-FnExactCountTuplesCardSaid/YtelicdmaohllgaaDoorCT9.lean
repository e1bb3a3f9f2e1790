import Derived.Test.YtelicdmaohllgaaDoorCT2
import Derived.Test.YtelicdmaohllgaaDoorCT8
import Derived.Test.YtelicdmaohllgaaDoorCT7
import Derived.Test.YtelicdmaohllgaaDoorCT3
import Derived.Carry
import Derived.Outline
import Derived.Test.YtelicdmaohllgaaDoorRows
import Derived.Test.YtelicdmaohllgaaDoorCT5
import Derived.Lib.LaidTab
import Derived.LaidLaws
import Derived.ChangeVars
import Derived.JoinedOf
import Derived.JoinedAt
import Derived.Deep.Matrix
import Derived.Deep.Grids
import Derived.Lib.SmallJoins
import Derived.ProofKit
import Derived.OpenShut
import Derived.Test.YtelicdmaohllgaaDoorCT6
import Derived.Test.YtelicdmaohllgaaDoorCT4
namespace Go.Proofs.YtelicdmaohllgaaDoor.X
set_option maxHeartbeats 16000000
set_option maxRecDepth 100000
open Go.RowKit Go.Proofs.YtelicdmaohllgaaDoorW.PrintWords Go.Proofs.YtelicdmaohllgaaDoorW.PrintLast Go.Proofs.YtelicdmaohllgaaDoorW.PrintMore
attribute [local go_sem] max2_int min2_int max_two min_two max_three min_three max_four min_four
set_option linter.unusedVariables false
set_option linter.unusedSimpArgs false
mutual
def impl_machine_countsTo.l0 : Nat → Int → List Int → List Int → Int → Int → Int → List Bool → List (List Int) → Option (List Int)
 | 0, _, _, _, _, _, _, _, _ => none
 | k + 1, x1, x5, x6, x7, x548000, x548001, x548002, x548003 => if x7 ≤ x1 then (if 0 ≤ (x5.length : Int) then (if ((x5.length : Int) : Int).toNat ≤ 35184372088832 then ((impl_machine_far.f k x548000 x548001 x548002 x548003).bind fun t555 => (impl_machine_countsTo.l1 k x1 x6 x7 0 (List.replicate ((x5.length : Int) : Int).toNat 0) t555 x5 (x5.length : Int) 0 x548000 x548001 x548002 x548003)) else (none)) else (none)) else (some x6)
def impl_machine_countsTo.l1 : Nat → Int → List Int → Int → Int → List Int → List Int → List Int → Int → Int → Int → Int → List Bool → List (List Int) → Option (List Int)
 | 0, _, _, _, _, _, _, _, _, _, _, _, _, _ => none
 | k + 1, x1, x6, x7, x8, x9, x10, x33, x34, x35, x548000, x548001, x548002, x548003 => if x35 < x34 then (if 0 ≤ x35 then (if x35 < (x33.length : Int) then (if (rd x33 x35) = 0 then (impl_machine_countsTo.j2 k x1 x6 x7 x8 x9 x10 x35 (rd x33 x35) x33 x34 x35 true x548000 x548001 x548002 x548003) else (if x35 < (x10.length : Int) then (impl_machine_countsTo.j2 k x1 x6 x7 x8 x9 x10 x35 (rd x33 x35) x33 x34 x35 (decide ((rd x10 x35) < 0)) x548000 x548001 x548002 x548003) else (none))) else (none)) else (none)) else (if x6.length < 17592186044416 then (impl_machine_countsTo.l0 k x1 x9 (x6 ++ [x8]) (wrap64 (x7 + 1)) x548000 x548001 x548002 x548003) else (none))
def impl_machine_countsTo.j2 : Nat → Int → List Int → Int → Int → List Int → List Int → Int → Int → List Int → Int → Int → Bool → Int → Int → List Bool → List (List Int) → Option (List Int)
 | 0, _, _, _, _, _, _, _, _, _, _, _, _, _, _, _, _ => none
 | k + 1, x1, x6, x7, x8, x9, x10, x11, x12, x33, x34, x35, x48, x548000, x548001, x548002, x548003 => if x48 = true then (impl_machine_countsTo.l1 k x1 x6 x7 x8 x9 x10 x33 x34 (wrap64 (x35 + 1)) x548000 x548001 x548002 x548003) else (if 0 ≤ x11 then (if x11 < (x548002.length : Int) then (if rdOf false x548002 x11 = true then (impl_machine_countsTo.j3 k x1 x6 x7 (wrap64 (x8 + x12)) x9 x10 x11 x12 x33 x34 x35 x548000 x548001 x548002 x548003) else (impl_machine_countsTo.j3 k x1 x6 x7 x8 x9 x10 x11 x12 x33 x34 x35 x548000 x548001 x548002 x548003)) else (none)) else (none))
def impl_machine_countsTo.j3 : Nat → Int → List Int → Int → Int → List Int → List Int → Int → Int → List Int → Int → Int → Int → Int → List Bool → List (List Int) → Option (List Int)
 | 0, _, _, _, _, _, _, _, _, _, _, _, _, _, _, _ => none
 | k + 1, x1, x6, x7, x8, x9, x10, x11, x12, x33, x34, x35, x548000, x548001, x548002, x548003 => if 0 ≤ x11 then (if x11 < (x548003.length : Int) then (impl_machine_countsTo.l2 k x1 x6 x7 x8 x9 x10 x12 x33 x34 x35 (rd_L9 x548003 x11) ((rd_L9 x548003 x11).length : Int) 0 x548000 x548001 x548002 x548003) else (none)) else (none)
def impl_machine_countsTo.l2 : Nat → Int → List Int → Int → Int → List Int → List Int → Int → List Int → Int → Int → List Int → Int → Int → Int → Int → List Bool → List (List Int) → Option (List Int)
 | 0, _, _, _, _, _, _, _, _, _, _, _, _, _, _, _, _, _ => none
 | k + 1, x1, x6, x7, x8, x9, x10, x12, x33, x34, x35, x61, x62, x63, x548000, x548001, x548002, x548003 => if x63 < x62 then (if 0 ≤ x63 then (if x63 < (x61.length : Int) then (if 0 ≤ (rd x61 x63) then (if (rd x61 x63) < (x10.length : Int) then (if (rd x10 (rd x61 x63)) ≥ 0 then (if (rd x61 x63) < (x9.length : Int) then (impl_machine_countsTo.l2 k x1 x6 x7 x8 (x9.set ((rd x61 x63) : Int).toNat (wrap64 ((rd x9 (rd x61 x63)) + x12))) x10 x12 x33 x34 x35 x61 x62 (wrap64 (x63 + 1)) x548000 x548001 x548002 x548003) else (none)) else (impl_machine_countsTo.l2 k x1 x6 x7 x8 x9 x10 x12 x33 x34 x35 x61 x62 (wrap64 (x63 + 1)) x548000 x548001 x548002 x548003)) else (none)) else (none)) else (none)) else (none)) else (impl_machine_countsTo.l1 k x1 x6 x7 x8 x9 x10 x33 x34 (wrap64 (x35 + 1)) x548000 x548001 x548002 x548003)
end
def impl_machine_countsTo.f (k : Nat) (a0_0 : Int) (a0_1 : Int) (l0_2 : List Bool) (l0_3 : List (List Int)) (a1 : Int) : Option (List Int) := if 0 ≤ (l0_2.length : Int) then (if ((l0_2.length : Int) : Int).toNat ≤ 35184372088832 then ((some (List.replicate ((l0_2.length : Int) : Int).toNat 0 : List Int)).bind fun y548 => (if 0 ≤ a0_1 then (if a0_1 < (y548.length : Int) then (impl_machine_countsTo.l0 k a1 (y548.set (a0_1 : Int).toNat 1) ([] : List Int) 0 a0_0 a0_1 l0_2 l0_3) else (none)) else (none))) else (none)) else (none)
theorem impl_machine_countsTo.calls (k : Nat) (a0_0 : Int) (a0_1 : Int) (A0_2 : Option Addr) (c0_2 : Nat) (l0_2 : List Bool) (A0_3 : Option Addr) (c0_3 : Nat) (l0_3 : List (List Int)) (a1 : Int) (r : List Int) (w : World) (hr0_2 : Kd.C Kd.bool w A0_2 l0_2.length l0_2) (hc0_2 : l0_2.length ≤ c0_2) (hr0_3 : Kd.C (Kd.slice 3 (Kd.int .i64)) w A0_3 l0_3.length l0_3) (hc0_3 : l0_3.length ≤ c0_3) (h : impl_machine_countsTo.f k a0_0 a0_1 l0_2 l0_3 a1 = some r) :
  Calls Tryd.prog 87 #[.agg #[.int .i64 a0_0, .int .i64 a0_1, .slice A0_2 l0_2.length c0_2, .slice A0_3 l0_3.length c0_3], .int .i64 a1] w fun e w' => ∃ v0_ : Value, e = .returned (v0_) ∧ Kd.R (Kd.int .i64) 2 w' w.heap.size (fun _ => True) v0_ r ∧ Below w.heap.size w w' := by
 have hu78 := Tryd.underlying78; have HR0_2 := am hr0_2; have HC0_2 := am hc0_2; clear hr0_2 hc0_2; have HR0_3 := am hr0_3; have HC0_3 := am hc0_3; clear hr0_3 hc0_3; have HB := am (Below.refl w.heap.size w); have H : (if 0 ≤ (l0_2.length : Int) then (if ((l0_2.length : Int) : Int).toNat ≤ 35184372088832 then ((some (List.replicate ((l0_2.length : Int) : Int).toNat 0 : List Int)).bind fun y548 => (if 0 ≤ a0_1 then (if a0_1 < (y548.length : Int) then (impl_machine_countsTo.l0 k a1 (y548.set (a0_1 : Int).toNat 1) ([] : List Int) 0 a0_0 a0_1 l0_2 l0_3) else (none)) else (none))) else (none)) else (none)) = some r := h; clear h; by_cases c3 : 0 ≤ (l0_2.length : Int)
 ·rw [if_pos c3] at H; have c3b0 := eq_true c3; have c3b1 := decide_eq_true c3; clear c3; by_cases c4 : ((l0_2.length : Int) : Int).toNat ≤ 35184372088832
  ·rw [if_pos c4] at H; have c4b0 := eq_true c4; have c4b1 := decide_eq_true c4; clear c4; obtain ⟨y548, hy548⟩ : ∃ y_ : List Int, y_ = (List.replicate ((l0_2.length : Int) : Int).toNat 0) := ⟨_, rfl⟩; replace H : (if 0 ≤ a0_1 then (if a0_1 < (y548.length : Int) then (impl_machine_countsTo.l0 k a1 (y548.set (a0_1 : Int).toNat 1) ([] : List Int) 0 a0_0 a0_1 l0_2 l0_3) else (none)) else (none)) = some r := tY hy548 H; have Ny548 := am hy548; clear hy548; by_cases c5 : 0 ≤ a0_1
   ·rw [if_pos c5] at H; have c5b0 := decide_eq_true c5; clear c5; by_cases c6 : a0_1 < (y548.length : Int)
    ·rw [if_pos c6] at H; have c6b0 := decide_eq_true c6; clear c6; obtain ⟨y551, hy551⟩ : ∃ y_ : List Int, y_ = (y548.set (a0_1 : Int).toNat 1) := ⟨_, rfl⟩; replace H : (impl_machine_countsTo.l0 k a1 y551 ([] : List Int) 0 a0_0 a0_1 l0_2 l0_3) = some r := tY hy551 H; have Ny551 := am hy551; clear hy551; have H' := am H; clear H; go_enter Tryd.func87, Tryd.ntmps87
     go_wp2_with (first | ((with_reducible refine gate_dst (N := 2) rfl ?_); refine boxA 2 #[.int .i64 a0_0, .int .i64 a0_1, .slice A0_2 l0_2.length c0_2, .slice A0_3 l0_3.length c0_3] 78 rfl rfl (h := ?_); intro gb547 hg w8 hbox hb; have BK547 := am (hbox); have GW547 := am ((by rw [hg]; exact (below_size (tB)) : w.heap.size ≤ gb547)); have GE547 := am ((by rw [hg]; exact (below_size (tB)) : w.heap.size ≤ gb547)); replace HB := am (below_step (tB) hb); clear hb hbox hg; obtain ⟨hcz9_0, hcz9_1, hcz9_2, hcz9_3⟩ := bc4 BK547.out; have hfz9_0 := blk_frozen BK547.out 0; have hfz9_1 := blk_frozen BK547.out 1; have hfz9_2 := blk_frozen BK547.out 2; have hfz9_3 := blk_frozen BK547.out 3) | ((with_reducible refine gate_dst (N := 18) rfl ?_); refine Kd.R_make (Kd.int .i64) _ 2 rfl (N := 18) rfl 25 _ _ rfl (l0_2.length : Int) rfl rfl Tryd.underlying25 (.int .i64 0) 8 info2 rfl (by decide) (by omega) 0 (ok := fun _ => True) (okp := fun _ => True) rfl (fun _ hk => hk) trivial (oA) (Nat.le_trans (Nat.mul_le_mul_right _ (oA : (l0_2.length : Int).toNat ≤ 35184372088832)) (by omega)) (Below.refl _ _) (Nat.le_refl _) ?_; intro v549 w10 ho11 hb hg_ hnew_; clear hg_ hnew_; (first | rw [← Ny548.out] at ho11 | (simp only [Int.reduceToNat] at ho11; rw [← Ny548.out] at ho11)); have HO550 := am (Kd.R_lower ho11 (below_size (tB))); replace BK547 := am (bkb BK547.out hb); replace HB := am (below_step (tB) hb); clear hb ho11; obtain ⟨hcz12_0, hcz12_1, hcz12_2, hcz12_3⟩ := bc4 BK547.out; have hfz12_0 := blk_frozen BK547.out 0; have hfz12_1 := blk_frozen BK547.out 1; have hfz12_2 := blk_frozen BK547.out 2; have hfz12_3 := blk_frozen BK547.out 3; have p7 : 0 ≤ (a0_1 : Int) := oA; have q7 : (a0_1 : Int) < ((y548.length : Int) : Int) := oA; obtain ⟨go7, co7, eo7, gb7, gl7, cl7, HG7⟩ := Kd.R_form HO550.out (by omega); (first | cases eo7 | (injection eo7 with ea_ en_ ec_; (first | subst ea_ | (injection ea_ with ea_; subst ea_)); subst ec_; clear en_)); have GB7 := am gb7; have GG7 := am HG7; clear gb7 gl7 HG7; obtain ⟨hx7_0, hf7_0⟩ := Kd.R_celln 0 HO550.out (a0_1 : Int) p7 q7; replace p7 := eq_true p7; replace q7 := eq_true q7; obtain ⟨hy13_, hz13_⟩ := Kd.R_celln 0 HO550.out (a0_1 : Int) (oA) (oA); have HP13 := Kd.R_putg HO550.out (a0_1 : Int) 1) | ((with_reducible refine gate_store (t := 2) (p := 22) rfl ?_); refine store_event (t := 2) (p := 22) (v := ?vo_w14) (w1 := (w10.setCell ⟨go7, (a0_1 : Int).toNat, none⟩ (.int .i64 1))) ?hg ?ho ?hn ?hr ?_; (case ho => rfl); (case hg => rfl); (case hn => rfl); (case hr => first | (go_simp; done) | (go_simp; rfl) | (obtain ⟨A_, c_, e_⟩ := Kd.R_slice HO550.out; subst e_; (first | (go_simp; done) | (go_simp; rfl)))); intro w14 hw; have hg : w10.grownBy w14 (some go7) := (by rw [hw]; exact HP13.2); have hp_ : Kd.R (Kd.int .i64) 2 w14 w.heap.size (fun _ => True) (.slice (some ⟨go7, 0, none⟩) y548.length co7) y551 := (by rw [hw, Ny551.out]; exact HP13.1); clear HP13; replace BK547 := am (blk_grown (g := gb547) (o := .cells #[.int .i64 a0_0, .int .i64 a0_1, .slice A0_2 l0_2.length c0_2, .slice A0_3 l0_3.length c0_3] 78 (0, 0)) (tBk BK547.out) hg (Kd.R_ne HO550.out BK547.out (by decide))); replace HO550 := am (hp_); replace HB := am ((by rw [hw]; exact below_set (HB.out) GB7.out : Below w.heap.size w w14)); clear hg hw hp_))
     go_loopg [5, 6, 7] k (fun kq v5 v6 v7 w' => ∃ (x5_1 : List Int) (x6_1 : List Int) (x7_1 : Int), v7 = .int .i64 x7_1 ∧ Aside0 (impl_machine_countsTo.l0 kq a1 x5_1 x6_1 x7_1 a0_0 a0_1 l0_2 l0_3 = some r) ∧ Aside0 (kq ≤ k) ∧ Aside0 (Kd.R (Kd.int .i64) 2 w' w.heap.size (fun k_ => some k_ ≠ (v6 : Value).ownBlock) v5 x5_1) ∧ Aside0 (Kd.R (Kd.int .i64) 2 w' w.heap.size (fun k_ => some k_ ≠ (v5 : Value).ownBlock) v6 x6_1) ∧ Aside0 (w'.heap[gb547]? = some (.cells #[.int .i64 a0_0, .int .i64 a0_1, (.slice A0_2 l0_2.length c0_2), (.slice A0_3 l0_3.length c0_3)] 78 (0, 0))) ∧ Aside0 (Below w.heap.size w w'))
     case atStart => exact ⟨(y551), (([] : List Int)), (0), (tF), H', ⟨Nat.le_refl _⟩, ⟨by refine tR ?_; exact Kd.R_mono HO550.out (fun _ hk => (by simp [Value.ownBlock]))⟩, ⟨by first | exact Kd.R_nil _ _ _ _ _ | exact Kd.N_nil _ _ _ _ _ | exact Kd.V_nil _ _ _ _ _ | exact Kd.Q_nil _ _ _ _ _ | exact Kd.S_nil _ _ _ _ _⟩, ⟨by refine tBk ?_; exact BK547.out⟩, ⟨tB⟩⟩
     case round =>
      clear H'
      try clear p2; try clear c3; try clear c3b0; try clear c3b1; try clear c4; try clear c4b0; try clear c4b1; try clear c5; try clear c5b0; try clear c6; try clear c6b0; try clear p7; try clear q7; try clear hx7; try clear hf7; try clear c8; try clear hcz12_0; try clear hcz12_1; try clear hcz12_2; try clear hcz12_3; try clear hcz9_0; try clear hcz9_1; try clear hcz9_2; try clear hcz9_3; try clear hfz12_0; try clear hfz12_1; try clear hfz12_2; try clear hfz12_3; try clear hfz9_0; try clear hfz9_1; try clear hfz9_2; try clear hfz9_3; try clear hx7_0; try clear p7; try clear q7
      obtain ⟨x5_1, x6_1, x7_1, rfl, HA, HK1, HO_5, HO_6, BK547, HB⟩ := hrel
      cases gk with
      | zero => exact absurd HA.out (by simp [impl_machine_countsTo.l0])
      | succ k1 =>
       have H := HA.out; clear HA; simp only [impl_machine_countsTo.l0] at H; by_cases c15 : x7_1 ≤ a1
       ·rw [if_pos c15] at H; have c15b0 := decide_eq_true c15; clear c15; by_cases c16 : 0 ≤ (x5_1.length : Int)
        ·rw [if_pos c16] at H; have c16b0 := eq_true c16; have c16b1 := decide_eq_true c16; clear c16; by_cases c17 : ((x5_1.length : Int) : Int).toNat ≤ 35184372088832
         ·rw [if_pos c17] at H; have c17b0 := eq_true c17; have c17b1 := decide_eq_true c17; clear c17; obtain ⟨y552, hy552⟩ : ∃ y_ : List Int, y_ = (List.replicate ((x5_1.length : Int) : Int).toNat 0) := ⟨_, rfl⟩; replace H : ((impl_machine_far.f k1 a0_0 a0_1 l0_2 l0_3).bind fun t555 => (impl_machine_countsTo.l1 k1 a1 x6_1 x7_1 0 y552 t555 x5_1 (x5_1.length : Int) 0 a0_0 a0_1 l0_2 l0_3)) = some r := tY hy552 H; have Ny552 := am hy552; clear hy552; obtain ⟨t555, A180, H⟩ := oB H; replace H : (impl_machine_countsTo.l1 k1 a1 x6_1 x7_1 0 y552 t555 x5_1 (x5_1.length : Int) 0 a0_0 a0_1 l0_2 l0_3) = some r := H; have A18 := am A180; clear A180; have H' := am H; clear H; obtain ⟨Ao19, co19, eo19⟩ := Kd.R_slice HO_5.out; subst eo19
          go_wp2_with (first | ((with_reducible refine gate_dst (N := 30) rfl ?_); refine Kd.R_make (Kd.int .i64) _ 2 rfl (N := 30) rfl 25 _ _ rfl (x5_1.length : Int) rfl rfl Tryd.underlying25 (.int .i64 0) 8 info2 rfl (by decide) (by omega) 0 (ok := fun _ => True) (okp := fun _ => True) rfl (fun _ hk => hk) trivial (oA) (Nat.le_trans (Nat.mul_le_mul_right _ (oA : (x5_1.length : Int).toNat ≤ 35184372088832)) (by omega)) (Below.refl _ _) (Nat.le_refl _) ?_; intro v553 w20 ho21 hb hg_ hnew_; clear hg_ hnew_; (first | rw [← Ny552.out] at ho21 | (simp only [Int.reduceToNat] at ho21; rw [← Ny552.out] at ho21)); have HO554 := am (Kd.R_lower (Kd.R_new' (Kd.R_new' ho21 (Kd.R_lt (tR HO_5.out))) (Kd.R_lt (tR HO_6.out))) (below_size (tB))); replace HO_5 := am (Kd.R_elder' (tR HO_5.out) (Kd.R_base ho21) hb); replace HO_6 := am (Kd.R_elder' (tR HO_6.out) (Kd.R_base ho21) hb); replace BK547 := am (bkb BK547.out hb); replace HB := am (below_step (tB) hb); clear hb ho21; obtain ⟨hcz22_0, hcz22_1, hcz22_2, hcz22_3⟩ := bc4 BK547.out; have hfz22_0 := blk_frozen BK547.out 0; have hfz22_1 := blk_frozen BK547.out 1; have hfz22_2 := blk_frozen BK547.out 2; have hfz22_3 := blk_frozen BK547.out 3) | ((with_reducible refine gate_callee (f := 135) rfl ?_); refine goesLA (some 32) Tryd.func135 #[.agg #[.int .i64 a0_0, .int .i64 a0_1, .slice A0_2 l0_2.length c0_2, .slice A0_3 l0_3.length c0_3]] rfl rfl rfl (h := ?_); (with_reducible refine (impl_machine_far.calls k1 a0_0 a0_1 _ _ l0_2 _ _ l0_3 t555 _ ?side1 ?side2 ?side3 ?side4 A18.out).mono ?_); (case side1 => exact tC (Kd.C_below HR0_2.out HB.out)); (case side2 => exact HC0_2.out); (case side3 => exact tC (Kd.C_below HR0_3.out HB.out)); (case side4 => exact HC0_3.out); rintro e w23 ⟨v556, rfl, ho0, hb⟩; refine ⟨_, rfl, ?_⟩; replace HO_5 := am (Kd.R_below (tR HO_5.out) hb); replace HO_6 := am (Kd.R_below (tR HO_6.out) hb); replace HO554 := am (Kd.R_below (tR HO554.out) hb); have HO557 := am (Kd.R_lower ho0 (below_size (tB))); replace BK547 := am (bkb BK547.out hb); replace HB := am (below_step (tB) hb); (try clear hb); (try clear hb2); (try clear hk); (try clear hi); (try clear ho0)))
          go_loopg [8, 35] k1 (fun kq v8 v35 w' => ∃ (x8_2 : Int) (x9_2 : List Int) (x35_2 : Int), v8 = .int .i64 x8_2 ∧ v35 = .int .i64 x35_2 ∧ Aside0 (impl_machine_countsTo.l1 kq a1 x6_1 x7_1 x8_2 x9_2 t555 x5_1 (x5_1.length : Int) x35_2 a0_0 a0_1 l0_2 l0_3 = some r) ∧ Aside0 (kq ≤ k1) ∧ Aside0 (Kd.R (Kd.int .i64) 2 w' w.heap.size (fun k_ => some k_ ≠ (v553 : Value).ownBlock ∧ some k_ ≠ ((.slice Ao19 x5_1.length co19) : Value).ownBlock) u6 x6_1) ∧ Aside0 (Kd.R (Kd.int .i64) 2 w' w.heap.size (fun k_ => some k_ ≠ (u6 : Value).ownBlock ∧ some k_ ≠ ((.slice Ao19 x5_1.length co19) : Value).ownBlock) v553 x9_2) ∧ Aside0 (Kd.R (Kd.int .i64) 3 w' w.heap.size (fun _ => True) v556 t555) ∧ Aside0 (Kd.R (Kd.int .i64) 2 w' w.heap.size (fun k_ => some k_ ≠ (u6 : Value).ownBlock ∧ some k_ ≠ (v553 : Value).ownBlock) (.slice Ao19 x5_1.length co19) x5_1) ∧ Aside0 (w'.heap[gb547]? = some (.cells #[.int .i64 a0_0, .int .i64 a0_1, (.slice A0_2 l0_2.length c0_2), (.slice A0_3 l0_3.length c0_3)] 78 (0, 0))) ∧ Aside0 (Below w.heap.size w w'))
          case atStart => exact ⟨(0), (y552), (0), (tF), (tF), H', ⟨Nat.le_refl _⟩, ⟨by refine tR ?_; exact Kd.R_mono HO_6.out (fun _ hk => ⟨hk.2, hk.1⟩)⟩, ⟨by refine tR ?_; exact Kd.R_mono HO554.out (fun _ hk => ⟨hk.2, hk.1.2⟩)⟩, ⟨by refine tR ?_; exact HO557.out⟩, ⟨by refine tR ?_; exact HO_5.out⟩, ⟨by refine tBk ?_; exact BK547.out⟩, ⟨tB⟩⟩
          case round =>
           clear H'
           try clear c1; try clear p2; try clear c3; try clear c3b0; try clear c3b1; try clear c4; try clear c4b0; try clear c4b1; try clear c5; try clear c5b0; try clear c6; try clear c6b0; try clear p7; try clear q7; try clear hx7; try clear hf7; try clear c8; try clear c13; try clear c15; try clear c15b0; try clear c16; try clear c16b0; try clear c16b1; try clear c17; try clear c17b0; try clear c17b1; try clear hcz12_0; try clear hcz12_1; try clear hcz12_2; try clear hcz12_3; try clear hcz22_0; try clear hcz22_1; try clear hcz22_2; try clear hcz22_3; try clear hcz9_0; try clear hcz9_1; try clear hcz9_2; try clear hcz9_3; try clear hfz12_0; try clear hfz12_1; try clear hfz12_2; try clear hfz12_3; try clear hfz22_0; try clear hfz22_1; try clear hfz22_2; try clear hfz22_3; try clear hfz9_0; try clear hfz9_1; try clear hfz9_2; try clear hfz9_3; try clear hx7_0; try clear p2; try clear p7; try clear q7
           obtain ⟨x8_2, x9_2, x35_2, rfl, rfl, HA, HK2, HO_6, HO_9, HO_10, HO_33, BK547, HB⟩ := hrel
           cases gk with
           | zero => exact absurd HA.out (by simp [impl_machine_countsTo.l1])
           | succ k2 =>
            have H := HA.out; clear HA; simp only [impl_machine_countsTo.l1] at H; by_cases c24 : x35_2 < (x5_1.length : Int)
            ·rw [if_pos c24] at H; have c24b0 := decide_eq_true c24; clear c24; by_cases c25 : 0 ≤ x35_2
             ·rw [if_pos c25] at H; have c25b0 := decide_eq_true c25; clear c25; by_cases c26 : x35_2 < (x5_1.length : Int)
              ·rw [if_pos c26] at H; have c26b0 := decide_eq_true c26; clear c26; have HC27 := am H; clear H; have p561 : 0 ≤ (x35_2 : Int) := oA; have q561 : x35_2 < (x5_1.length : Int) := oA; obtain ⟨ad561, e561, hx561_0⟩ := Kd.at_int (Kd.R_reads' HO_33.out).2.2 x35_2 p561 q561; cases e561; replace p561 := eq_true p561; replace q561 := eq_true q561
               go_upto_region 13 with (fail)
               go_cut [48] (fun v48 wc => ∃ (kq : Nat) (x48_26 : Bool), v48 = .bool x48_26 ∧ Aside0 (impl_machine_countsTo.j2 kq a1 x6_1 x7_1 x8_2 x9_2 t555 x35_2 (rd x5_1 x35_2) x5_1 (x5_1.length : Int) x35_2 x48_26 a0_0 a0_1 l0_2 l0_3 = some r) ∧ Aside0 (kq ≤ k2) ∧ Aside0 (Kd.R (Kd.int .i64) 2 wc w.heap.size (fun k_ => some k_ ≠ (v553 : Value).ownBlock ∧ some k_ ≠ ((.slice (some ad561) x5_1.length co19) : Value).ownBlock) u6 x6_1) ∧ Aside0 (Kd.R (Kd.int .i64) 2 wc w.heap.size (fun k_ => some k_ ≠ (u6 : Value).ownBlock ∧ some k_ ≠ ((.slice (some ad561) x5_1.length co19) : Value).ownBlock) v553 x9_2) ∧ Aside0 (Kd.R (Kd.int .i64) 3 wc w.heap.size (fun _ => True) v556 t555) ∧ Aside0 (Kd.R (Kd.int .i64) 2 wc w.heap.size (fun k_ => some k_ ≠ (u6 : Value).ownBlock ∧ some k_ ≠ (v553 : Value).ownBlock) (.slice (some ad561) x5_1.length co19) x5_1) ∧ Aside0 (wc.heap[gb547]? = some (.cells #[.int .i64 a0_0, .int .i64 a0_1, (.slice A0_2 l0_2.length c0_2), (.slice A0_3 l0_3.length c0_3)] 78 (0, 0))) ∧ Aside0 (Below w.heap.size w wc))
               case first =>
                have H := HC27.out; clear HC27; by_cases c28 : (rd x5_1 x35_2) = 0
                ·rw [if_pos c28] at H; have c28b0 : ((rd x5_1 x35_2) == 0) = true := beq_iff_eq.mpr c28; have c28b1 : ((rd x5_1 x35_2) != 0) = false := bne_eq_false_iff_eq.mpr c28; clear c28
                 (first | rw [c28b0] | (simp only [i64_w, i32_w]; rw [c28b0]) | skip)
                 have H' := am H; clear H; go_wp2
                 go_meet
                 case rel => exact ⟨_, (true), (tF), H', ⟨by have := HK1.out; have := HK2.out; first | omega | exact Nat.le_refl _⟩, ⟨by refine tR ?_; exact HO_6.out⟩, ⟨by refine tR ?_; exact HO_9.out⟩, ⟨by refine tR ?_; exact HO_10.out⟩, ⟨by refine tR ?_; exact HO_33.out⟩, ⟨by refine tBk ?_; exact BK547.out⟩, ⟨tB⟩⟩
                ·rw [if_neg c28] at H; have c28b0 : ((rd x5_1 x35_2) == 0) = false := beq_eq_false_iff_ne.mpr c28; have c28b1 : ((rd x5_1 x35_2) != 0) = true := bne_iff_ne.mpr c28
                 (first | rw [c28b0] | (simp only [i64_w, i32_w]; rw [c28b0]) | skip)
                 by_cases c29 : x35_2 < (t555.length : Int)
                 ·rw [if_pos c29] at H; have c29b0 := decide_eq_true c29; clear c29; have H' := am H; clear H; obtain ⟨Ao30, co30, eo30⟩ := Kd.R_slice HO_10.out; subst eo30; have p562 : 0 ≤ (x35_2 : Int) := oA; have q562 : x35_2 < (t555.length : Int) := oA; obtain ⟨ad562, e562, hx562_0⟩ := Kd.at_int (Kd.R_reads' HO_10.out).2.2 x35_2 p562 q562; cases e562; replace p562 := eq_true p562; replace q562 := eq_true q562; go_wp2
                  go_meet
                  case rel => exact ⟨_, (decide ((rd t555 x35_2) < 0)), (tF), H', ⟨by have := HK1.out; have := HK2.out; first | omega | exact Nat.le_refl _⟩, ⟨by refine tR ?_; exact HO_6.out⟩, ⟨by refine tR ?_; exact HO_9.out⟩, ⟨by refine tR ?_; exact HO_10.out⟩, ⟨by refine tR ?_; exact HO_33.out⟩, ⟨by refine tBk ?_; exact BK547.out⟩, ⟨tB⟩⟩
                 ·rw [if_neg c29] at H; exact absurd H (by simp)
               case rest =>
                clear HC27
                try clear c1; try clear c2; try clear p2; try clear c3; try clear c3b0; try clear c3b1; try clear c4; try clear c4b0; try clear c4b1; try clear c5; try clear c5b0; try clear p5; try clear q5; try clear hx5; try clear c6; try clear c6b0; try clear p7; try clear q7; try clear hx7; try clear hf7; try clear c8; try clear c13; try clear c15; try clear c15b0; try clear c16; try clear c16b0; try clear c16b1; try clear c17; try clear c17b0; try clear c17b1; try clear c24; try clear c24b0; try clear c25; try clear c25b0; try clear c26; try clear c26b0; try clear c28; try clear c28b0; try clear c28b1; try clear c29; try clear c29b0; try clear hcz12_0; try clear hcz12_1; try clear hcz12_2; try clear hcz12_3; try clear hcz22_0; try clear hcz22_1; try clear hcz22_2; try clear hcz22_3; try clear hcz9_0; try clear hcz9_1; try clear hcz9_2; try clear hcz9_3; try clear hfz12_0; try clear hfz12_1; try clear hfz12_2; try clear hfz12_3; try clear hfz22_0; try clear hfz22_1; try clear hfz22_2; try clear hfz22_3; try clear hfz9_0; try clear hfz9_1; try clear hfz9_2; try clear hfz9_3; try clear hx561_0; try clear hx562_0; try clear hx7_0; try clear p2; try clear p561; try clear p562; try clear p7; try clear q561; try clear q562; try clear q7
                obtain ⟨kq, x48_26, rfl, HA, HJ26, HO_6, HO_9, HO_10, HO_33, BK547, HB⟩ := hcut
                cases kq with
                | zero => exact absurd HA.out (by simp [impl_machine_countsTo.j2])
                | succ kj26 =>
                 have H := HA.out; clear HA; simp only [impl_machine_countsTo.j2] at H; by_cases c31 : x48_26 = true
                 ·subst c31; (have H1 : (impl_machine_countsTo.l1 kj26 a1 x6_1 x7_1 x8_2 x9_2 t555 x5_1 (x5_1.length : Int) (wrap64 (x35_2 + 1)) a0_0 a0_1 l0_2 l0_3) = some r := by rw [if_pos rfl] at H; exact H); clear H; have H := H1; clear H1; have H' := am H; clear H; go_wp2; go_roundg kj26
                  case measure => have := HK1.out; have := HK2.out; have := HJ26.out; omega
                  case rel => exact ⟨(x8_2), (x9_2), (wrap64 (x35_2 + 1)), (tF), (tF), H', ⟨by have := HK1.out; have := HK2.out; have := HJ26.out; omega⟩, ⟨by refine tR ?_; exact HO_6.out⟩, ⟨by refine tR ?_; exact HO_9.out⟩, ⟨by refine tR ?_; exact HO_10.out⟩, ⟨by refine tR ?_; exact HO_33.out⟩, ⟨by refine tBk ?_; exact BK547.out⟩, ⟨tB⟩⟩
                 ·replace c31 := Bool.eq_false_iff.mpr c31; subst c31; (have H1 : (if 0 ≤ x35_2 then (if x35_2 < (l0_2.length : Int) then (if rdOf false l0_2 x35_2 = true then (impl_machine_countsTo.j3 kj26 a1 x6_1 x7_1 (wrap64 (x8_2 + (rd x5_1 x35_2))) x9_2 t555 x35_2 (rd x5_1 x35_2) x5_1 (x5_1.length : Int) x35_2 a0_0 a0_1 l0_2 l0_3) else (impl_machine_countsTo.j3 kj26 a1 x6_1 x7_1 x8_2 x9_2 t555 x35_2 (rd x5_1 x35_2) x5_1 (x5_1.length : Int) x35_2 a0_0 a0_1 l0_2 l0_3)) else (none)) else (none)) = some r := by rw [if_neg (show ¬ (false = true) by decide)] at H; exact H); clear H; have H := H1; clear H1; by_cases c32 : 0 ≤ x35_2
                  ·rw [if_pos c32] at H; have c32b0 := decide_eq_true c32; clear c32; by_cases c33 : x35_2 < (l0_2.length : Int)
                   ·rw [if_pos c33] at H; have c33b0 := decide_eq_true c33; clear c33; have HC34 := am H; clear H; obtain ⟨hcz35_0, hcz35_1, hcz35_2, hcz35_3⟩ := bc4 BK547.out; obtain ⟨hfz35_0, hfz35_1, hfz35_2, hfz35_3⟩ := bf4 BK547.out; have p563 : 0 ≤ (x35_2 : Int) := oA; have q563 : x35_2 < (l0_2.length : Int) := oA; obtain ⟨ad563, e563, hx563_0⟩ := Kd.at_bool HR0_2.out x35_2 p563 q563; cases e563; replace hx563_0 := (HB.out.cell (World.block_lt_of_cell? w _ hx563_0)).trans hx563_0; replace p563 := eq_true p563; replace q563 := eq_true q563
                    go_upto_if 53 with (fail)
                    go_cut [8] (fun v8 wc => ∃ (kq : Nat) (x8_33 : Int), v8 = .int .i64 x8_33 ∧ Aside0 (impl_machine_countsTo.j3 kq a1 x6_1 x7_1 x8_33 x9_2 t555 x35_2 (rd x5_1 x35_2) x5_1 (x5_1.length : Int) x35_2 a0_0 a0_1 l0_2 l0_3 = some r) ∧ Aside0 (kq ≤ kj26) ∧ Aside0 (Kd.R (Kd.int .i64) 2 wc w.heap.size (fun k_ => some k_ ≠ (v553 : Value).ownBlock ∧ some k_ ≠ ((.slice (some ad561) x5_1.length co19) : Value).ownBlock) u6 x6_1) ∧ Aside0 (Kd.R (Kd.int .i64) 2 wc w.heap.size (fun k_ => some k_ ≠ (u6 : Value).ownBlock ∧ some k_ ≠ ((.slice (some ad561) x5_1.length co19) : Value).ownBlock) v553 x9_2) ∧ Aside0 (Kd.R (Kd.int .i64) 3 wc w.heap.size (fun _ => True) v556 t555) ∧ Aside0 (Kd.R (Kd.int .i64) 2 wc w.heap.size (fun k_ => some k_ ≠ (u6 : Value).ownBlock ∧ some k_ ≠ (v553 : Value).ownBlock) (.slice (some ad561) x5_1.length co19) x5_1) ∧ Aside0 (wc.heap[gb547]? = some (.cells #[.int .i64 a0_0, .int .i64 a0_1, (.slice (some ad563) l0_2.length c0_2), (.slice A0_3 l0_3.length c0_3)] 78 (0, 0))) ∧ Aside0 (Below w.heap.size w wc))
                    case first =>
                     have H := HC34.out; clear HC34; obtain ⟨bq36, hbq36⟩ : ∃ b_ : Bool, b_ = (rdOf false l0_2 x35_2) := ⟨_, rfl⟩; (replace H : (if bq36 = true then (impl_machine_countsTo.j3 kj26 a1 x6_1 x7_1 (wrap64 (x8_2 + (rd x5_1 x35_2))) x9_2 t555 x35_2 (rd x5_1 x35_2) x5_1 (x5_1.length : Int) x35_2 a0_0 a0_1 l0_2 l0_3) else (impl_machine_countsTo.j3 kj26 a1 x6_1 x7_1 x8_2 x9_2 t555 x35_2 (rd x5_1 x35_2) x5_1 (x5_1.length : Int) x35_2 a0_0 a0_1 l0_2 l0_3)) = some r := by rw [← hbq36] at H; exact H); have Nbq36 := am hbq36; clear hbq36
                     (try rw [← Nbq36.out])
                     by_cases c37 : bq36 = true
                     ·subst c37; (have H1 : (impl_machine_countsTo.j3 kj26 a1 x6_1 x7_1 (wrap64 (x8_2 + (rd x5_1 x35_2))) x9_2 t555 x35_2 (rd x5_1 x35_2) x5_1 (x5_1.length : Int) x35_2 a0_0 a0_1 l0_2 l0_3) = some r := by rw [if_pos rfl] at H; exact H); clear H; have H := H1; clear H1; have H' := am H; clear H; go_wp2
                      go_meet
                      case rel => exact ⟨_, (wrap64 (x8_2 + (rd x5_1 x35_2))), (tF), H', ⟨by have := HK1.out; have := HK2.out; have := HJ26.out; first | omega | exact Nat.le_refl _⟩, ⟨by refine tR ?_; exact HO_6.out⟩, ⟨by refine tR ?_; exact HO_9.out⟩, ⟨by refine tR ?_; exact HO_10.out⟩, ⟨by refine tR ?_; exact HO_33.out⟩, ⟨by refine tBk ?_; exact BK547.out⟩, ⟨tB⟩⟩
                     ·replace c37 := Bool.eq_false_iff.mpr c37; subst c37; (have H1 : (impl_machine_countsTo.j3 kj26 a1 x6_1 x7_1 x8_2 x9_2 t555 x35_2 (rd x5_1 x35_2) x5_1 (x5_1.length : Int) x35_2 a0_0 a0_1 l0_2 l0_3) = some r := by rw [if_neg (show ¬ (false = true) by decide)] at H; exact H); clear H; have H := H1; clear H1; have H' := am H; clear H; go_wp2
                      go_meet
                      case rel => exact ⟨_, (x8_2), (tF), H', ⟨by have := HK1.out; have := HK2.out; have := HJ26.out; first | omega | exact Nat.le_refl _⟩, ⟨by refine tR ?_; exact HO_6.out⟩, ⟨by refine tR ?_; exact HO_9.out⟩, ⟨by refine tR ?_; exact HO_10.out⟩, ⟨by refine tR ?_; exact HO_33.out⟩, ⟨by refine tBk ?_; exact BK547.out⟩, ⟨tB⟩⟩
                    case rest =>
                     clear HC34
                     try clear c1; try clear c2; try clear p2; try clear c3; try clear c3b0; try clear c3b1; try clear q3; try clear c4; try clear c4b0; try clear c4b1; try clear c5; try clear c5b0; try clear p5; try clear q5; try clear hx5; try clear c6; try clear c6b0; try clear p6; try clear p7; try clear q7; try clear hx7; try clear hf7; try clear c8; try clear c13; try clear c15; try clear c15b0; try clear c16; try clear c16b0; try clear c16b1; try clear c17; try clear c17b0; try clear c17b1; try clear c24; try clear c24b0; try clear c25; try clear c25b0; try clear c26; try clear c26b0; try clear c28; try clear c28b0; try clear c28b1; try clear c29; try clear c29b0; try clear c31; try clear c32; try clear c32b0; try clear c33; try clear c33b0; try clear q36; try clear c37; try clear hcz12_0; try clear hcz12_1; try clear hcz12_2; try clear hcz12_3; try clear hcz22_0; try clear hcz22_1; try clear hcz22_2; try clear hcz22_3; try clear hcz35_0; try clear hcz35_1; try clear hcz35_2; try clear hcz35_3; try clear hcz9_0; try clear hcz9_1; try clear hcz9_2; try clear hcz9_3; try clear hfz12_0; try clear hfz12_1; try clear hfz12_2; try clear hfz12_3; try clear hfz22_0; try clear hfz22_1; try clear hfz22_2; try clear hfz22_3; try clear hfz35_0; try clear hfz35_1; try clear hfz35_2; try clear hfz35_3; try clear hfz9_0; try clear hfz9_1; try clear hfz9_2; try clear hfz9_3; try clear hx561_0; try clear hx562_0; try clear hx563_0; try clear hx7_0; try clear p2; try clear p5; try clear p561; try clear p562; try clear p563; try clear p7; try clear q5; try clear q561; try clear q562; try clear q563; try clear q7
                     obtain ⟨kq, x8_33, rfl, HA, HJ33, HO_6, HO_9, HO_10, HO_33, BK547, HB⟩ := hcut
                     cases kq with
                     | zero => exact absurd HA.out (by simp [impl_machine_countsTo.j3])
                     | succ kj33 =>
                      have H := HA.out; clear HA; simp only [impl_machine_countsTo.j3] at H; by_cases c38 : 0 ≤ x35_2
                      ·rw [if_pos c38] at H; have c38b0 := decide_eq_true c38; clear c38; by_cases c39 : x35_2 < (l0_3.length : Int)
                       ·rw [if_pos c39] at H; have c39b0 := decide_eq_true c39; clear c39; have H' := am H; clear H; obtain ⟨hcz40_0, hcz40_1, hcz40_2, hcz40_3⟩ := bc4 BK547.out; obtain ⟨hfz40_0, hfz40_1, hfz40_2, hfz40_3⟩ := bf4 BK547.out; have p564 : 0 ≤ (x35_2 : Int) := oA; have q564 : x35_2 < (l0_3.length : Int) := oA; obtain ⟨ad564, A564_0, c564_0, e564, hx564_0, hl564_0, hi564_0⟩ := at_L9 HR0_3.out x35_2 p564 q564; cases e564; replace hx564_0 := (HB.out.cell (World.block_lt_of_cell? w _ hx564_0)).trans hx564_0; have HR564_0 := am hi564_0; have HC564_0 := am hl564_0; clear hi564_0 hl564_0; replace p564 := eq_true p564; replace q564 := eq_true q564; go_wp2
                        go_loopg [63] kj33 (fun kq v63 w' => ∃ (x9_5 : List Int) (x63_5 : Int), v63 = .int .i64 x63_5 ∧ Aside0 (impl_machine_countsTo.l2 kq a1 x6_1 x7_1 x8_33 x9_5 t555 (rd x5_1 x35_2) x5_1 (x5_1.length : Int) x35_2 (rd_L9 l0_3 x35_2) ((rd_L9 l0_3 x35_2).length : Int) x63_5 a0_0 a0_1 l0_2 l0_3 = some r) ∧ Aside0 (kq ≤ kj33) ∧ Aside0 (Kd.R (Kd.int .i64) 2 w' w.heap.size (fun k_ => some k_ ≠ (v553 : Value).ownBlock ∧ some k_ ≠ ((.slice (some ad561) x5_1.length co19) : Value).ownBlock) u6 x6_1) ∧ Aside0 (Kd.R (Kd.int .i64) 2 w' w.heap.size (fun k_ => some k_ ≠ (u6 : Value).ownBlock ∧ some k_ ≠ ((.slice (some ad561) x5_1.length co19) : Value).ownBlock) v553 x9_5) ∧ Aside0 (Kd.R (Kd.int .i64) 3 w' w.heap.size (fun _ => True) v556 t555) ∧ Aside0 (Kd.R (Kd.int .i64) 2 w' w.heap.size (fun k_ => some k_ ≠ (u6 : Value).ownBlock ∧ some k_ ≠ (v553 : Value).ownBlock) (.slice (some ad561) x5_1.length co19) x5_1) ∧ Aside0 (w'.heap[gb547]? = some (.cells #[.int .i64 a0_0, .int .i64 a0_1, (.slice (some ad563) l0_2.length c0_2), (.slice (some ad564) l0_3.length c0_3)] 78 (0, 0))) ∧ Aside0 (Below w.heap.size w w'))
                        case atStart => exact ⟨(x9_2), (0), (tF), H', ⟨Nat.le_refl _⟩, ⟨by refine tR ?_; exact HO_6.out⟩, ⟨by refine tR ?_; exact HO_9.out⟩, ⟨by refine tR ?_; exact HO_10.out⟩, ⟨by refine tR ?_; exact HO_33.out⟩, ⟨by refine tBk ?_; exact BK547.out⟩, ⟨tB⟩⟩
                        case round =>
                         clear H'
                         try clear c1; try clear c2; try clear p2; try clear c3; try clear c3b0; try clear c3b1; try clear q3; try clear c4; try clear c4b0; try clear c4b1; try clear c5; try clear c5b0; try clear p5; try clear q5; try clear hx5; try clear c6; try clear c6b0; try clear p6; try clear p7; try clear q7; try clear hx7; try clear hf7; try clear c8; try clear c13; try clear c15; try clear c15b0; try clear c16; try clear c16b0; try clear c16b1; try clear c17; try clear c17b0; try clear c17b1; try clear c24; try clear c24b0; try clear c25; try clear c25b0; try clear c26; try clear c26b0; try clear c28; try clear c28b0; try clear c28b1; try clear c29; try clear c29b0; try clear c31; try clear c32; try clear c32b0; try clear c33; try clear c33b0; try clear q36; try clear c37; try clear c38; try clear c38b0; try clear c39; try clear c39b0; try clear hcz12_0; try clear hcz12_1; try clear hcz12_2; try clear hcz12_3; try clear hcz22_0; try clear hcz22_1; try clear hcz22_2; try clear hcz22_3; try clear hcz35_0; try clear hcz35_1; try clear hcz35_2; try clear hcz35_3; try clear hcz40_0; try clear hcz40_1; try clear hcz40_2; try clear hcz40_3; try clear hcz9_0; try clear hcz9_1; try clear hcz9_2; try clear hcz9_3; try clear hfz12_0; try clear hfz12_1; try clear hfz12_2; try clear hfz12_3; try clear hfz22_0; try clear hfz22_1; try clear hfz22_2; try clear hfz22_3; try clear hfz35_0; try clear hfz35_1; try clear hfz35_2; try clear hfz35_3; try clear hfz40_0; try clear hfz40_1; try clear hfz40_2; try clear hfz40_3; try clear hfz9_0; try clear hfz9_1; try clear hfz9_2; try clear hfz9_3; try clear hx561_0; try clear hx562_0; try clear hx563_0; try clear hx564_0; try clear hx7_0; try clear p2; try clear p5; try clear p561; try clear p562; try clear p563; try clear p564; try clear p6; try clear p7; try clear q3; try clear q36; try clear q5; try clear q561; try clear q562; try clear q563; try clear q564; try clear q7
                         obtain ⟨x9_5, x63_5, rfl, HA, HK5, HO_6, HO_9, HO_10, HO_33, BK547, HB⟩ := hrel
                         cases gk with
                         | zero => exact absurd HA.out (by simp [impl_machine_countsTo.l2])
                         | succ k5 =>
                          have H := HA.out; clear HA; simp only [impl_machine_countsTo.l2] at H; by_cases c41 : x63_5 < ((rd_L9 l0_3 x35_2).length : Int)
                          ·rw [if_pos c41] at H; have c41b0 := decide_eq_true c41; clear c41; by_cases c42 : 0 ≤ x63_5
                           ·rw [if_pos c42] at H; have c42b0 := decide_eq_true c42; clear c42; by_cases c43 : x63_5 < ((rd_L9 l0_3 x35_2).length : Int)
                            ·rw [if_pos c43] at H; have c43b0 := decide_eq_true c43; clear c43; by_cases c44 : 0 ≤ (rd (rd_L9 l0_3 x35_2) x63_5)
                             ·rw [if_pos c44] at H; have c44b0 := decide_eq_true c44; clear c44; by_cases c45 : (rd (rd_L9 l0_3 x35_2) x63_5) < (t555.length : Int)
                              ·rw [if_pos c45] at H; have c45b0 := decide_eq_true c45; clear c45; by_cases c46 : (rd t555 (rd (rd_L9 l0_3 x35_2) x63_5)) ≥ 0
                               ·rw [if_pos c46] at H; have c46b0 : decide (0 ≤ (rd t555 (rd (rd_L9 l0_3 x35_2) x63_5))) = true := decide_eq_true c46; clear c46; by_cases c47 : (rd (rd_L9 l0_3 x35_2) x63_5) < (x9_5.length : Int)
                                ·rw [if_pos c47] at H; have c47b0 := decide_eq_true c47; clear c47; obtain ⟨y568, hy568⟩ : ∃ y_ : List Int, y_ = (x9_5.set ((rd (rd_L9 l0_3 x35_2) x63_5) : Int).toNat (wrap64 ((rd x9_5 (rd (rd_L9 l0_3 x35_2) x63_5)) + (rd x5_1 x35_2)))) := ⟨_, rfl⟩; replace H : (impl_machine_countsTo.l2 k5 a1 x6_1 x7_1 x8_33 y568 t555 (rd x5_1 x35_2) x5_1 (x5_1.length : Int) x35_2 (rd_L9 l0_3 x35_2) ((rd_L9 l0_3 x35_2).length : Int) (wrap64 (x63_5 + 1)) a0_0 a0_1 l0_2 l0_3) = some r := tY hy568 H; have Ny568 := am hy568; clear hy568; have H' := am H; clear H; have p565 : 0 ≤ (x63_5 : Int) := oA; have q565 : x63_5 < ((rd_L9 l0_3 x35_2).length : Int) := oA; obtain ⟨ad565, e565, hx565_0⟩ := Kd.at_int HR564_0.out x63_5 p565 q565; cases e565; replace hx565_0 := (HB.out.cell (World.block_lt_of_cell? w _ hx565_0)).trans hx565_0; replace p565 := eq_true p565; replace q565 := eq_true q565; obtain ⟨Ao49, co49, eo49⟩ := Kd.R_slice HO_10.out; subst eo49; have p566 : 0 ≤ ((rd (rd_L9 l0_3 x35_2) x63_5) : Int) := oA; have q566 : (rd (rd_L9 l0_3 x35_2) x63_5) < (t555.length : Int) := oA; obtain ⟨ad566, e566, hx566_0⟩ := Kd.at_int (Kd.R_reads' HO_10.out).2.2 (rd (rd_L9 l0_3 x35_2) x63_5) p566 q566; cases e566; replace p566 := eq_true p566; replace q566 := eq_true q566; obtain ⟨Ao50, co50, eo50⟩ := Kd.R_slice HO_9.out; subst eo50; have p567 : 0 ≤ ((rd (rd_L9 l0_3 x35_2) x63_5) : Int) := oA; have q567 : (rd (rd_L9 l0_3 x35_2) x63_5) < (x9_5.length : Int) := oA; obtain ⟨ad567, e567, hx567_0⟩ := Kd.at_int (Kd.R_reads' HO_9.out).2.2 (rd (rd_L9 l0_3 x35_2) x63_5) p567 q567; cases e567; replace p567 := eq_true p567; replace q567 := eq_true q567; have p48 : 0 ≤ ((rd (rd_L9 l0_3 x35_2) x63_5) : Int) := oA; have q48 : ((rd (rd_L9 l0_3 x35_2) x63_5) : Int) < ((x9_5.length : Int) : Int) := oA; obtain ⟨go48, co48, eo48, gb48, gl48, cl48, HG48⟩ := Kd.R_form HO_9.out (by omega)
                                 (first | cases eo48 | (injection eo48 with ea_ en_ ec_; (first | subst ea_ | (injection ea_ with ea_; subst ea_)); subst ec_; clear en_))
                                 have GB48 := am gb48; have GG48 := am HG48; clear gb48 gl48 HG48
                                 (first | simp only [add_plain] at hx567_0 | skip)
                                 obtain ⟨hx48_0, hf48_0⟩ := Kd.R_celln 0 HO_9.out ((rd (rd_L9 l0_3 x35_2) x63_5) : Int) p48 q48; replace p48 := eq_true p48; replace q48 := eq_true q48; have HP51 := Kd.R_putg HO_9.out ((rd (rd_L9 l0_3 x35_2) x63_5) : Int) (wrap64 ((rd x9_5 (rd (rd_L9 l0_3 x35_2) x63_5)) + (rd x5_1 x35_2)))
                                 go_wp2_with (first | ((with_reducible refine gate_store (t := 2) (p := 78) rfl ?_); refine store_event (t := 2) (p := 78) (v := ?vo_w52) (w1 := (wr.setCell ⟨go48, ((rd (rd_L9 l0_3 x35_2) x63_5) : Int).toNat, none⟩ (.int .i64 (wrap64 ((rd x9_5 (rd (rd_L9 l0_3 x35_2) x63_5)) + (rd x5_1 x35_2)))))) ?hg ?ho ?hn ?hr ?_; (case ho => rfl); (case hg => rfl); (case hn => rfl); (case hr => first | (go_simp; done) | (go_simp; rfl)); intro w52 hw; have hg : wr.grownBy w52 (some go48) := (by rw [hw]; exact HP51.2); have hp_ : Kd.R (Kd.int .i64) 2 w52 w.heap.size (fun k_ => some k_ ≠ (u6 : Value).ownBlock ∧ some k_ ≠ (.slice (some ad561) x5_1.length co19 : Value).ownBlock) (.slice (some ⟨go48, 0, none⟩) x9_5.length co50) y568 := (by rw [hw, Ny568.out]; exact HP51.1); clear HP51; replace HO_6 := am (Kd.R_after (v := (.slice (some ⟨go48, 0, none⟩) x9_5.length co50)) (v1 := (.slice (some ⟨go48, 0, none⟩) x9_5.length co50)) (ok := (fun k_ => some k_ ≠ (.slice (some ad561) x5_1.length co19 : Value).ownBlock)) (by refine tR ?_; exact Kd.R_mono HO_6.out (fun _ hk => ⟨hk.2, hk.1⟩)) hg (.inl rfl)); replace HO_10 := am (Kd.R_over' (v := (.slice (some ⟨go48, 0, none⟩) x9_5.length co50)) (tR HO_10.out) (Kd.R_typed HO_9.out) (by decide) hg); replace HO_33 := am (Kd.R_after (v := (.slice (some ⟨go48, 0, none⟩) x9_5.length co50)) (v1 := (.slice (some ⟨go48, 0, none⟩) x9_5.length co50)) (ok := (fun k_ => some k_ ≠ (u6 : Value).ownBlock)) (tR HO_33.out) hg (.inl rfl)); replace BK547 := am (blk_grown (g := gb547) (o := .cells #[.int .i64 a0_0, .int .i64 a0_1, .slice (some ad563) l0_2.length c0_2, .slice (some ad564) l0_3.length c0_3] 78 (0, 0)) (tBk BK547.out) hg (Kd.R_ne HO_9.out BK547.out (by decide))); replace HO_9 := am (hp_); replace HB := am ((by rw [hw]; exact below_set (HB.out) GB48.out : Below w.heap.size w w52)); clear hg hw hp_))
                                 go_roundg k5
                                 case measure => have := HK1.out; have := HK2.out; have := HJ26.out; have := HJ33.out; have := HK5.out; omega
                                 case rel => exact ⟨(y568), (wrap64 (x63_5 + 1)), (tF), H', ⟨by have := HK1.out; have := HK2.out; have := HJ26.out; have := HJ33.out; have := HK5.out; omega⟩, ⟨by refine tR ?_; exact Kd.R_mono HO_6.out (fun _ hk => ⟨hk.2, hk.1⟩)⟩, ⟨by refine tR ?_; exact HO_9.out⟩, ⟨by refine tR ?_; exact HO_10.out⟩, ⟨by refine tR ?_; exact HO_33.out⟩, ⟨by refine tBk ?_; exact BK547.out⟩, ⟨tB⟩⟩
                                ·rw [if_neg c47] at H; exact absurd H (by simp)
                               ·rw [if_neg c46] at H; have c46b0 : decide (0 ≤ (rd t555 (rd (rd_L9 l0_3 x35_2) x63_5))) = false := decide_eq_false c46; clear c46; have H' := am H; clear H; have p565 : 0 ≤ (x63_5 : Int) := oA; have q565 : x63_5 < ((rd_L9 l0_3 x35_2).length : Int) := oA; obtain ⟨ad565, e565, hx565_0⟩ := Kd.at_int HR564_0.out x63_5 p565 q565; cases e565; replace hx565_0 := (HB.out.cell (World.block_lt_of_cell? w _ hx565_0)).trans hx565_0; replace p565 := eq_true p565; replace q565 := eq_true q565; obtain ⟨Ao53, co53, eo53⟩ := Kd.R_slice HO_10.out; subst eo53; have p566 : 0 ≤ ((rd (rd_L9 l0_3 x35_2) x63_5) : Int) := oA; have q566 : (rd (rd_L9 l0_3 x35_2) x63_5) < (t555.length : Int) := oA; obtain ⟨ad566, e566, hx566_0⟩ := Kd.at_int (Kd.R_reads' HO_10.out).2.2 (rd (rd_L9 l0_3 x35_2) x63_5) p566 q566; cases e566; replace p566 := eq_true p566; replace q566 := eq_true q566; go_wp2; go_roundg k5
                                case measure => have := HK1.out; have := HK2.out; have := HJ26.out; have := HJ33.out; have := HK5.out; omega
                                case rel => exact ⟨(x9_5), (wrap64 (x63_5 + 1)), (tF), H', ⟨by have := HK1.out; have := HK2.out; have := HJ26.out; have := HJ33.out; have := HK5.out; omega⟩, ⟨by refine tR ?_; exact HO_6.out⟩, ⟨by refine tR ?_; exact HO_9.out⟩, ⟨by refine tR ?_; exact HO_10.out⟩, ⟨by refine tR ?_; exact HO_33.out⟩, ⟨by refine tBk ?_; exact BK547.out⟩, ⟨tB⟩⟩
                              ·rw [if_neg c45] at H; exact absurd H (by simp)
                             ·rw [if_neg c44] at H; exact absurd H (by simp)
                            ·rw [if_neg c43] at H; exact absurd H (by simp)
                           ·rw [if_neg c42] at H; exact absurd H (by simp)
                          ·rw [if_neg c41] at H; have c41b0 := decide_eq_false c41; clear c41; have H' := am H; clear H; go_wp2; go_roundg k5
                           case measure => have := HK1.out; have := HK2.out; have := HJ26.out; have := HJ33.out; have := HK5.out; omega
                           case rel => exact ⟨(x8_33), (x9_5), (wrap64 (x35_2 + 1)), (tF), (tF), H', ⟨by have := HK1.out; have := HK2.out; have := HJ26.out; have := HJ33.out; have := HK5.out; omega⟩, ⟨by refine tR ?_; exact HO_6.out⟩, ⟨by refine tR ?_; exact HO_9.out⟩, ⟨by refine tR ?_; exact HO_10.out⟩, ⟨by refine tR ?_; exact HO_33.out⟩, ⟨by refine tBk ?_; exact BK547.out⟩, ⟨tB⟩⟩
                       ·rw [if_neg c39] at H; exact absurd H (by simp)
                      ·rw [if_neg c38] at H; exact absurd H (by simp)
                   ·rw [if_neg c33] at H; exact absurd H (by simp)
                  ·rw [if_neg c32] at H; exact absurd H (by simp)
              ·rw [if_neg c26] at H; exact absurd H (by simp)
             ·rw [if_neg c25] at H; exact absurd H (by simp)
            ·rw [if_neg c24] at H; have c24b0 := decide_eq_false c24; clear c24; by_cases c54 : x6_1.length < 17592186044416
             ·rw [if_pos c54] at H; have LMc54 := am c54; clear c54; obtain ⟨y558, hy558⟩ : ∃ y_ : List Int, y_ = (x6_1 ++ [x8_2]) := ⟨_, rfl⟩; replace H : (impl_machine_countsTo.l0 k2 a1 x9_2 y558 (wrap64 (x7_1 + 1)) a0_0 a0_1 l0_2 l0_3) = some r := tY hy558 H; have Ny558 := am hy558; clear hy558; have H' := am H; clear H
              go_wp2_with (first | ((with_reducible refine gate_builtin (b := .append) (xs := #[.tmp 81, .tmp 83]) rfl ?_); at_builtin; refine Kd.R_append (Kd.int .i64) (w0 := w) w.heap.size rfl (.tmp 81) (.tmp 83) 25 2 (.int .i64 0) 8 rfl Tryd.underlying25 info2 rfl (by decide) (by omega) u6 x6_1 x8_2 [.int .i64 x8_2] (fun k_ => some k_ ≠ (v553 : Value).ownBlock ∧ some k_ ≠ (.slice Ao19 x5_1.length co19 : Value).ownBlock) (fun _ => False) rfl rfl ?aP (fun _ hk => hk.elim) ?aF ?aO ?aB ?aS ?aL ?_; (case aP => exact rfl); (case aB => exact (tB)); (case aF => exact (fun k_ hk => ⟨Kd.fresh' (Kd.R_lt (tR HO_9.out)) k_ hk, Kd.fresh' (Kd.R_lt (tR HO_33.out)) k_ hk⟩)); (case aO => exact (tR HO_6.out)); (case aS => exact (below_size (tB))); (case aL => have := LMc54.out; omega); intro v559 w55 ho hb hg hat; rw [← Ny558.out] at ho; replace HO_9 := am (Kd.R_after (ok := (fun k_ => some k_ ≠ (.slice Ao19 x5_1.length co19 : Value).ownBlock)) (by refine tR ?_; exact Kd.R_mono HO_9.out (fun _ hk => ⟨hk.2, hk.1⟩)) hg hat); replace HO_10 := am (Kd.R_over' (tR HO_10.out) (Kd.R_typed (tR HO_6.out)) (by decide) hg); replace HO_33 := am (Kd.R_after (ok := (fun k_ => some k_ ≠ (v553 : Value).ownBlock)) (by refine tR ?_; exact Kd.R_mono HO_33.out (fun _ hk => ⟨hk.2, hk.1⟩)) hg hat); replace BK547 := am (blk_grown (g := gb547) (o := .cells #[.int .i64 a0_0, .int .i64 a0_1, .slice A0_2 l0_2.length c0_2, .slice A0_3 l0_3.length c0_3] 78 (0, 0)) (tBk BK547.out) hg (Kd.R_ne HO_6.out BK547.out (by decide))); replace HB := am (hb); have HO560 := am (ho); clear HO_6; clear ho hb hg hat))
              go_roundg k2
              case measure => have := HK1.out; have := HK2.out; omega
              case rel => exact ⟨(x9_2), (y558), (wrap64 (x7_1 + 1)), (tF), H', ⟨by have := HK1.out; have := HK2.out; omega⟩, ⟨by refine tR ?_; exact Kd.R_mono HO_9.out (fun _ hk => hk.2)⟩, ⟨by refine tR ?_; exact Kd.R_mono HO560.out (fun _ hk => hk.1)⟩, ⟨by refine tBk ?_; exact BK547.out⟩, ⟨tB⟩⟩
             ·rw [if_neg c54] at H; exact absurd H (by simp)
         ·rw [if_neg c17] at H; exact absurd H (by simp)
        ·rw [if_neg c16] at H; exact absurd H (by simp)
       ·rw [if_neg c15] at H; have c15b0 := decide_eq_false c15; clear c15; obtain rfl := Option.some.inj H; go_wp2; go_ret; exact ⟨_, tE, by refine tR ?_; exact Kd.R_mono HO_6.out (fun _ hk => trivial), tB⟩
    ·rw [if_neg c6] at H; exact absurd H (by simp)
   ·rw [if_neg c5] at H; exact absurd H (by simp)
  ·rw [if_neg c4] at H; exact absurd H (by simp)
 ·rw [if_neg c3] at H; exact absurd H (by simp)
def impl_CountTuples.f (k : Nat) (a0_0 : Int) (a0_1 : Int) (l0_2 : List Bool) (l0_3 : List (List Int)) (a1 : Int) : Option (Int × Int) := (impl_ValidRelation.f k a0_0 a0_1 l0_2 l0_3).bind fun t570 => (if t570 = true then ((impl_isLength.f a1).bind fun t571 => (if t571 = true then ((impl_tidyOf.f k a0_0 a0_1 l0_2 l0_3).bind fun bt572 => ((impl_machine_countsTo.f k bt572.1 bt572.2.1 bt572.2.2.1 bt572.2.2.2 a1).bind fun t580 => (if 0 ≤ a1 then (if a1 < (t580.length : Int) then (some (rd t580 a1, 0)) else (none)) else (none)))) else (some (0, 2)))) else (some (0, 1)))
theorem impl_CountTuples.calls (k : Nat) (a0_0 : Int) (a0_1 : Int) (A0_2 : Option Addr) (c0_2 : Nat) (l0_2 : List Bool) (A0_3 : Option Addr) (c0_3 : Nat) (l0_3 : List (List Int)) (a1 : Int) (r1 : Int) (r2 : Int) (w : World) (htab : TabOK w) (hr0_2 : Kd.C Kd.bool w A0_2 l0_2.length l0_2) (hc0_2 : l0_2.length ≤ c0_2) (hr0_3 : Kd.C (Kd.slice 2 (Kd.int .i64)) w A0_3 l0_3.length l0_3) (hc0_3 : l0_3.length ≤ c0_3) (h : impl_CountTuples.f k a0_0 a0_1 l0_2 l0_3 a1 = some (r1, r2)) :
  Calls Tryd.prog 39 #[.agg #[.int .i64 a0_0, .int .i64 a0_1, .slice A0_2 l0_2.length c0_2, .slice A0_3 l0_3.length c0_3], .int .i64 a1] w fun e w' => e = .returned (.tuple #[.int .i64 r1, .int .i64 r2]) ∧ Below w.heap.size w w' := by
 have HTab := am htab; clear htab; have hu38 := Tryd.underlying38; have HR0_2 := am hr0_2; have HC0_2 := am hc0_2; clear hr0_2 hc0_2; have HR0_3 := am hr0_3; have HC0_3 := am hc0_3; clear hr0_3 hc0_3; have HB := am (Below.refl w.heap.size w); have H : ((impl_ValidRelation.f k a0_0 a0_1 l0_2 l0_3).bind fun t570 => (if t570 = true then ((impl_isLength.f a1).bind fun t571 => (if t571 = true then ((impl_tidyOf.f k a0_0 a0_1 l0_2 l0_3).bind fun bt572 => ((impl_machine_countsTo.f k bt572.1 bt572.2.1 bt572.2.2.1 bt572.2.2.2 a1).bind fun t580 => (if 0 ≤ a1 then (if a1 < (t580.length : Int) then (some (rd t580 a1, 0)) else (none)) else (none)))) else (some (0, 2)))) else (some (0, 1)))) = some (r1, r2) := h; clear h; obtain ⟨t570, A30, H⟩ := oB H; replace H : (if t570 = true then ((impl_isLength.f a1).bind fun t571 => (if t571 = true then ((impl_tidyOf.f k a0_0 a0_1 l0_2 l0_3).bind fun bt572 => ((impl_machine_countsTo.f k bt572.1 bt572.2.1 bt572.2.2.1 bt572.2.2.2 a1).bind fun t580 => (if 0 ≤ a1 then (if a1 < (t580.length : Int) then (some (rd t580 a1, 0)) else (none)) else (none)))) else (some (0, 2)))) else (some (0, 1))) = some (r1, r2) := H; have A3 := am A30; clear A30; by_cases c4 : t570 = true
 ·subst c4; (have H1 : ((impl_isLength.f a1).bind fun t571 => (if t571 = true then ((impl_tidyOf.f k a0_0 a0_1 l0_2 l0_3).bind fun bt572 => ((impl_machine_countsTo.f k bt572.1 bt572.2.1 bt572.2.2.1 bt572.2.2.2 a1).bind fun t580 => (if 0 ≤ a1 then (if a1 < (t580.length : Int) then (some (rd t580 a1, 0)) else (none)) else (none)))) else (some (0, 2)))) = some (r1, r2) := by rw [if_pos rfl] at H; exact H); clear H; have H := H1; clear H1; obtain ⟨t571, A50, H⟩ := oB H; replace H : (if t571 = true then ((impl_tidyOf.f k a0_0 a0_1 l0_2 l0_3).bind fun bt572 => ((impl_machine_countsTo.f k bt572.1 bt572.2.1 bt572.2.2.1 bt572.2.2.2 a1).bind fun t580 => (if 0 ≤ a1 then (if a1 < (t580.length : Int) then (some (rd t580 a1, 0)) else (none)) else (none)))) else (some (0, 2))) = some (r1, r2) := H; have A5 := am A50; clear A50; by_cases c6 : t571 = true
  ·subst c6; (have H1 : ((impl_tidyOf.f k a0_0 a0_1 l0_2 l0_3).bind fun bt572 => ((impl_machine_countsTo.f k bt572.1 bt572.2.1 bt572.2.2.1 bt572.2.2.2 a1).bind fun t580 => (if 0 ≤ a1 then (if a1 < (t580.length : Int) then (some (rd t580 a1, 0)) else (none)) else (none)))) = some (r1, r2) := by rw [if_pos rfl] at H; exact H); clear H; have H := H1; clear H1; obtain ⟨⟨t572, t573, t574, t577⟩, A70, H⟩ := oB H; replace H : ((impl_machine_countsTo.f k t572 t573 t574 t577 a1).bind fun t580 => (if 0 ≤ a1 then (if a1 < (t580.length : Int) then (some (rd t580 a1, 0)) else (none)) else (none))) = some (r1, r2) := H; have A7 := am A70; clear A70; obtain ⟨t580, A80, H⟩ := oB H; replace H : (if 0 ≤ a1 then (if a1 < (t580.length : Int) then (some (rd t580 a1, 0)) else (none)) else (none)) = some (r1, r2) := H; have A8 := am A80; clear A80; by_cases c9 : 0 ≤ a1
   ·rw [if_pos c9] at H; have c9b0 := decide_eq_true c9; clear c9; by_cases c10 : a1 < (t580.length : Int)
    ·rw [if_pos c10] at H; have c10b0 := decide_eq_true c10; clear c10; simp only [Option.some.injEq, Prod.mk.injEq] at H; obtain ⟨rfl, rfl⟩ := H; go_enter Tryd.func39, Tryd.ntmps39
     go_wp2_with (first | ((with_reducible refine gate_dst (N := 2) rfl ?_); refine boxA 2 #[.int .i64 a0_0, .int .i64 a0_1, .slice A0_2 l0_2.length c0_2, .slice A0_3 l0_3.length c0_3] 38 rfl rfl (h := ?_); intro gb569 hg w11 hbox hb; have BK569 := am (hbox); have GW569 := am ((by rw [hg]; exact (below_size (tB)) : w.heap.size ≤ gb569)); have GE569 := am ((by rw [hg]; exact (below_size (tB)) : w.heap.size ≤ gb569)); replace HB := am (below_step (tB) hb); clear hb hbox hg; obtain ⟨hcz12_0, hcz12_1, hcz12_2, hcz12_3⟩ := bc4 BK569.out; have hfz12_0 := blk_frozen BK569.out 0; have hfz12_1 := blk_frozen BK569.out 1; have hfz12_2 := blk_frozen BK569.out 2; have hfz12_3 := blk_frozen BK569.out 3) | ((with_reducible refine gate_callee (f := 81) rfl ?_); refine goesLA (some 8) Tryd.func81 #[.agg #[.int .i64 a0_0, .int .i64 a0_1, .slice A0_2 l0_2.length c0_2, .slice A0_3 l0_3.length c0_3]] rfl rfl rfl (h := ?_); (with_reducible refine (impl_ValidRelation.calls k a0_0 a0_1 _ _ l0_2 _ _ l0_3 true _ ?side1 ?side2 ?side3 ?side4 A3.out).mono ?_); (case side1 => exact tC (Kd.C_below HR0_2.out HB.out)); (case side2 => exact HC0_2.out); (case side3 => exact tC (Kd.C_below HR0_3.out HB.out)); (case side4 => exact HC0_3.out); rintro e w13 ⟨rfl, hb⟩; refine ⟨_, rfl, ?_⟩; replace BK569 := am (bkb BK569.out hb); replace HB := am (below_step (tB) hb); (try clear hb); (try clear hb2); (try clear hk); (try clear hi)) | ((with_reducible refine gate_callee (f := 85) rfl ?_); refine goesLA (some 12) Tryd.func85 #[.int .i64 a1] rfl rfl rfl (h := ?_); (with_reducible refine (impl_isLength.calls a1 true _ A5.out).mono ?_); rintro e w' ⟨rfl, ⟨nd, rfl⟩⟩; refine ⟨_, rfl, ?_⟩; obtain ⟨hcz14_0, hcz14_1, hcz14_2, hcz14_3⟩ := bc4 BK569.out; have hfz14_0 := blk_frozen BK569.out 0; have hfz14_1 := blk_frozen BK569.out 1; have hfz14_2 := blk_frozen BK569.out 2; have hfz14_3 := blk_frozen BK569.out 3) | ((with_reducible refine gate_callee (f := 86) rfl ?_); refine goesLA (some 15) Tryd.func86 #[.agg #[.int .i64 a0_0, .int .i64 a0_1, .slice A0_2 l0_2.length c0_2, .slice A0_3 l0_3.length c0_3]] rfl rfl rfl (h := ?_); (with_reducible refine (impl_tidyOf.calls k a0_0 a0_1 _ _ l0_2 _ _ l0_3 t572 t573 t574 t577 _ (tab_below HTab.out (by repeat (first | (with_reducible first | exact HB.out | apply below_alloc | apply pw_below_drewN | apply below_drew1 | refine below_set ?_ GE569.out) | exact HB.out | exact Below.refl _ _))) ?side1 ?side2 ?side3 ?side4 A7.out).mono ?_); (case side1 => exact tC (Kd.C_below HR0_2.out (tB))); (case side2 => exact HC0_2.out); (case side3 => exact tC (Kd.C_below HR0_3.out (tB))); (case side4 => exact HC0_3.out); rintro e w15 ⟨v575, v578, rfl, ho0, ho1, hb⟩; refine ⟨_, rfl, ?_⟩; have HO576 := am (Kd.R_lower ho0 (below_size (tB))); have HO579 := am (Kd.S_lower ho1 (below_size (tB))); replace BK569 := am (bkb BK569.out hb); replace HB := am (below_step (tB) hb); (try clear hb); (try clear hb2); (try clear hk); (try clear hi); (try clear ho0); (try clear ho1); obtain ⟨Ao16, co16, eo16⟩ := Kd.R_slice HO576.out; subst eo16; obtain ⟨Ao17, co17, eo17⟩ := Kd.S_slice HO579.out; subst eo17) | ((with_reducible refine gate_callee (f := 87) rfl ?_); refine goesLA (some 17) Tryd.func87 #[.agg #[.int .i64 t572, .int .i64 t573, .slice Ao16 t574.length co16, .slice Ao17 t577.length co17], .int .i64 a1] rfl rfl rfl (h := ?_); (with_reducible refine (impl_machine_countsTo.calls k t572 t573 _ _ t574 _ _ t577 a1 t580 _ ?side1 ?side2 ?side3 ?side4 A8.out).mono ?_); (case side1 => exact tC (Kd.R_reads' HO576.out).2.2); (case side2 => exact (Kd.R_reads' HO576.out).2.1); (case side3 => exact tC (Kd.S_reads' HO579.out).2.2); (case side4 => exact (Kd.S_reads' HO579.out).2.1); rintro e w18 ⟨v581, rfl, ho0, hb⟩; refine ⟨_, rfl, ?_⟩; replace HO576 := am (Kd.R_below (tR HO576.out) hb); replace HO579 := am (Kd.S_below (tS HO579.out) hb); have HO582 := am (Kd.R_lower ho0 (below_size (tB))); replace BK569 := am (bkb BK569.out hb); replace HB := am (below_step (tB) hb); (try clear hb); (try clear hb2); (try clear hk); (try clear hi); (try clear ho0); obtain ⟨Ao19, co19, eo19⟩ := Kd.R_slice HO582.out; subst eo19; have p583 : 0 ≤ (a1 : Int) := oA; have q583 : a1 < (t580.length : Int) := oA; obtain ⟨ad583, e583, hx583_0⟩ := Kd.at_int (Kd.R_reads' HO582.out).2.2 a1 p583 q583; cases e583; replace p583 := eq_true p583; replace q583 := eq_true q583))
     go_ret2; exact ⟨tE, tB⟩
    ·rw [if_neg c10] at H; exact absurd H (by simp)
   ·rw [if_neg c9] at H; exact absurd H (by simp)
  ·replace c6 := Bool.eq_false_iff.mpr c6; subst c6; (have H1 : (some (0, 2)) = some (r1, r2) := by rw [if_neg (show ¬ (false = true) by decide)] at H; exact H); clear H; have H := H1; clear H1; simp only [Option.some.injEq, Prod.mk.injEq] at H; obtain ⟨rfl, rfl⟩ := H; go_enter Tryd.func39, Tryd.ntmps39
   go_wp2_with (first | ((with_reducible refine gate_dst (N := 2) rfl ?_); refine boxA 2 #[.int .i64 a0_0, .int .i64 a0_1, .slice A0_2 l0_2.length c0_2, .slice A0_3 l0_3.length c0_3] 38 rfl rfl (h := ?_); intro gb569 hg w20 hbox hb; have BK569 := am (hbox); have GW569 := am ((by rw [hg]; exact (below_size (tB)) : w.heap.size ≤ gb569)); have GE569 := am ((by rw [hg]; exact (below_size (tB)) : w.heap.size ≤ gb569)); replace HB := am (below_step (tB) hb); clear hb hbox hg; obtain ⟨hcz21_0, hcz21_1, hcz21_2, hcz21_3⟩ := bc4 BK569.out; have hfz21_0 := blk_frozen BK569.out 0; have hfz21_1 := blk_frozen BK569.out 1; have hfz21_2 := blk_frozen BK569.out 2; have hfz21_3 := blk_frozen BK569.out 3) | ((with_reducible refine gate_callee (f := 81) rfl ?_); refine goesLA (some 8) Tryd.func81 #[.agg #[.int .i64 a0_0, .int .i64 a0_1, .slice A0_2 l0_2.length c0_2, .slice A0_3 l0_3.length c0_3]] rfl rfl rfl (h := ?_); (with_reducible refine (impl_ValidRelation.calls k a0_0 a0_1 _ _ l0_2 _ _ l0_3 true _ ?side1 ?side2 ?side3 ?side4 A3.out).mono ?_); (case side1 => exact tC (Kd.C_below HR0_2.out HB.out)); (case side2 => exact HC0_2.out); (case side3 => exact tC (Kd.C_below HR0_3.out HB.out)); (case side4 => exact HC0_3.out); rintro e w22 ⟨rfl, hb⟩; refine ⟨_, rfl, ?_⟩; replace BK569 := am (bkb BK569.out hb); replace HB := am (below_step (tB) hb); (try clear hb); (try clear hb2); (try clear hk); (try clear hi)) | ((with_reducible refine gate_callee (f := 85) rfl ?_); refine goesLA (some 12) Tryd.func85 #[.int .i64 a1] rfl rfl rfl (h := ?_); (with_reducible refine (impl_isLength.calls a1 false _ A5.out).mono ?_); rintro e w' ⟨rfl, ⟨nd, rfl⟩⟩; refine ⟨_, rfl, ?_⟩))
   go_ret2; exact ⟨tE, tB⟩
 ·replace c4 := Bool.eq_false_iff.mpr c4; subst c4; (have H1 : (some (0, 1)) = some (r1, r2) := by rw [if_neg (show ¬ (false = true) by decide)] at H; exact H); clear H; have H := H1; clear H1; simp only [Option.some.injEq, Prod.mk.injEq] at H; obtain ⟨rfl, rfl⟩ := H; go_enter Tryd.func39, Tryd.ntmps39
  go_wp2_with (first | ((with_reducible refine gate_dst (N := 2) rfl ?_); refine boxA 2 #[.int .i64 a0_0, .int .i64 a0_1, .slice A0_2 l0_2.length c0_2, .slice A0_3 l0_3.length c0_3] 38 rfl rfl (h := ?_); intro gb569 hg w23 hbox hb; have BK569 := am (hbox); have GW569 := am ((by rw [hg]; exact (below_size (tB)) : w.heap.size ≤ gb569)); have GE569 := am ((by rw [hg]; exact (below_size (tB)) : w.heap.size ≤ gb569)); replace HB := am (below_step (tB) hb); clear hb hbox hg; obtain ⟨hcz24_0, hcz24_1, hcz24_2, hcz24_3⟩ := bc4 BK569.out; have hfz24_0 := blk_frozen BK569.out 0; have hfz24_1 := blk_frozen BK569.out 1; have hfz24_2 := blk_frozen BK569.out 2; have hfz24_3 := blk_frozen BK569.out 3) | ((with_reducible refine gate_callee (f := 81) rfl ?_); refine goesLA (some 8) Tryd.func81 #[.agg #[.int .i64 a0_0, .int .i64 a0_1, .slice A0_2 l0_2.length c0_2, .slice A0_3 l0_3.length c0_3]] rfl rfl rfl (h := ?_); (with_reducible refine (impl_ValidRelation.calls k a0_0 a0_1 _ _ l0_2 _ _ l0_3 false _ ?side1 ?side2 ?side3 ?side4 A3.out).mono ?_); (case side1 => exact tC (Kd.C_below HR0_2.out HB.out)); (case side2 => exact HC0_2.out); (case side3 => exact tC (Kd.C_below HR0_3.out HB.out)); (case side4 => exact HC0_3.out); rintro e w25 ⟨rfl, hb⟩; refine ⟨_, rfl, ?_⟩; replace BK569 := am (bkb BK569.out hb); replace HB := am (below_step (tB) hb); (try clear hb); (try clear hb2); (try clear hk); (try clear hi)))
  go_ret2; exact ⟨tE, tB⟩
open Classical in
noncomputable def laws_FnExactCountTuples.f (k : Nat) (t0 : Int) (s0 : Int) (l02 : List Bool) (l03 : List (List Int)) (a1 : Int) : Option Bool := (laws_szRelation.f k t0 s0 l02 l03 1048576).bind fun z1 => if z1 < 0 then some true else if laws_toRelation.f k t0 s0 l02 l03 = some (t0, s0, l02, l03) then ((spec_CountTuples.f k t0 s0 l02 l03 a1).bind fun | (r0, r1) => if impl_CountTuples.f k t0 s0 l02 l03 a1 = some (r0, r1) then (if laws_eqRelation.f k t0 s0 l02 l03 t0 s0 l02 l03 = some true then (some true) else none) else none) else none
theorem laws_FnExactCountTuples.main (k : Nat) (t0 s0 : Int) (A02 : Option Addr) (c02 : Nat) (l02 : List Bool) (A03 : Option Addr) (c03 : Nat) (l03 : List (List Int)) (a1 : Int) (w : World) (htab : TabOK w) (hr02 : Kd.C Kd.bool w A02 l02.length l02) (hc02 : l02.length ≤ c02) (hr03 : Kd.C (Kd.slice 2 (Kd.int .i64)) w A03 l03.length l03) (hc03 : l03.length ≤ c03) (z1 : Int) (r0 : Int) (r1 : Int) (hz1 : laws_szRelation.f k t0 s0 l02 l03 1048576 = some z1) (ht0 : laws_toRelation.f k t0 s0 l02 l03 = some (t0, s0, l02, l03)) (hS : spec_CountTuples.f k t0 s0 l02 l03 a1 = some (r0, r1)) (hI : impl_CountTuples.f k t0 s0 l02 l03 a1 = some (r0, r1)) (he0 : laws_eqRelation.f k t0 s0 l02 l03 t0 s0 l02 l03 = some true) (hsz1 : ¬ z1 < 0) :
  Calls Tryd.prog 7 #[.agg #[.int .i64 t0, .int .i64 s0, .slice A02 l02.length c02, .slice A03 l03.length c03], .int .i64 a1] w fun e w' => e = .returned (.bool true) ∧ Below w.heap.size w w' := by
 have HR02 := am hr02; have HC02 := am hc02; have HR03 := am hr03; have HC03 := am hc03; have HZ1 := am hz1; have HT0 := am ht0; have HS := am hS; have HI := am hI; have HE0 := am he0; have HSZ1 := am hsz1; have HT := am htab; clear hr02 hc02 hr03 hc03 hz1 ht0 hS hI he0 hsz1 htab; have HB_w := am (Below.refl w.heap.size w); go_enter Tryd.func7, Tryd.ntmps7
 go_wp2_with (fail)
 have HB_w1 := am (below_alloc (Below.refl w.heap.size w) (.cells #[.int .i64 t0, .int .i64 s0, .slice A02 l02.length c02, .slice A03 l03.length c03] 46)); have BXp0_w1 : Aside0 ((((w.alloc (.cells #[.int .i64 t0, .int .i64 s0, .slice A02 l02.length c02, .slice A03 l03.length c03] 46))).heap)[w.heap.size]? = some (.cells #[.int .i64 t0, .int .i64 s0, .slice A02 l02.length c02, .slice A03 l03.length c03] 46 (0, 0))) := am (by have q_ := (blk_new w (.cells #[.int .i64 t0, .int .i64 s0, .slice A02 l02.length c02, .slice A03 l03.length c03] 46)); simpa using q_); have HZ_w1 := am (show w.heap.size + 1 ≤ ((w.alloc (.cells #[.int .i64 t0, .int .i64 s0, .slice A02 l02.length c02, .slice A03 l03.length c03] 46))).heap.size by simp); generalize (w.alloc (.cells #[.int .i64 t0, .int .i64 s0, .slice A02 l02.length c02, .slice A03 l03.length c03] 46)) = w1 at *; (with_reducible refine (laws_szRelation.calls k t0 s0 _ _ l02 _ _ l03 1048576 z1 _ (Kd.C_below HR02.out HB_w1.out) HC02.out (Kd.C_below HR03.out HB_w1.out) HC03.out HZ1.out).mono ?_); rintro e w2 ⟨rfl, hb⟩; have HZ_w2 := am (show w1.heap.size + 0 ≤ w2.heap.size by have := hb.size; omega); have HB_w2 := am (below_then HB_w1.out HB_w1.out.size hb); have BXp0_w2 := am (blk_below BXp0_w1.out hb); clear HB_w1 BXp0_w1; clear hb; have hsz1 : decide (z1 < 0) = false := decide_eq_false (by have q_ := HSZ1.out; omega); obtain ⟨hx0_0, hx0_1, hx0_2, hx0_3⟩ := bc4 BXp0_w2.out
 go_wp2_with (fail)
 clear hx0_0 hx0_1 hx0_2 hx0_3; (with_reducible refine (laws_toRelation.calls k t0 s0 _ _ l02 _ _ l03 t0 s0 l02 l03 _ (Kd.C_below HR02.out HB_w2.out) HC02.out (Kd.C_below HR03.out HB_w2.out) HC03.out HT0.out).mono ?_); rintro e w3 ⟨vx202, vx203, rfl, hx202, hx203, hb⟩; obtain ⟨Ax202, cx202, hvx202⟩ := Kd.R_slice hx202; subst hvx202; obtain ⟨Ax203, cx203, hvx203⟩ := Kd.S_slice hx203; subst hvx203; have HZ_w3 := am (show w2.heap.size + 0 ≤ w3.heap.size by have := hb.size; omega); have RIx20_w3 := am (RelOwn.mk_ (base := w.heap.size) HB_w2.out.size hx202 hx203); have HB_w3 := am (below_then HB_w2.out HB_w2.out.size hb); have BXp0_w3 := am (blk_below BXp0_w2.out hb); clear HB_w2 BXp0_w2; clear hx202 hx203 hb
 go_wp2_with (fail)
 (with_reducible refine (spec_CountTuples.calls k t0 s0 _ _ l02 _ _ l03 a1 r0 r1 _ RIx20_w3.out.reads.1 RIx20_w3.out.reads.2.1 RIx20_w3.out.reads.2.2.1 RIx20_w3.out.reads.2.2.2 HS.out).mono ?_); rintro e w4 ⟨rfl, hb⟩; have HZ_w4 := am (show w3.heap.size + 0 ≤ w4.heap.size by have := hb.size; omega); have HB_w4 := am (below_then HB_w3.out HB_w3.out.size hb); have BXp0_w4 := am (blk_below BXp0_w3.out hb); have RIx20_w4 := am (RIx20_w3.out.below hb); clear HB_w3 BXp0_w3 RIx20_w3; clear hb; obtain ⟨hx0_0, hx0_1, hx0_2, hx0_3⟩ := bc4 BXp0_w4.out
 go_wp2_with (fail)
 clear hx0_0 hx0_1 hx0_2 hx0_3; (with_reducible refine (laws_toRelation.calls k t0 s0 _ _ l02 _ _ l03 t0 s0 l02 l03 _ (Kd.C_below HR02.out HB_w4.out) HC02.out (Kd.C_below HR03.out HB_w4.out) HC03.out HT0.out).mono ?_); rintro e w5 ⟨vx402, vx403, rfl, hx402, hx403, hb⟩; obtain ⟨Ax402, cx402, hvx402⟩ := Kd.R_slice hx402; subst hvx402; obtain ⟨Ax403, cx403, hvx403⟩ := Kd.S_slice hx403; subst hvx403; have HZ_w5 := am (show w4.heap.size + 0 ≤ w5.heap.size by have := hb.size; omega); have RIx40_w5 := am (RelOwn.mk_ (base := w.heap.size) HB_w4.out.size hx402 hx403); have HB_w5 := am (below_then HB_w4.out HB_w4.out.size hb); have BXp0_w5 := am (blk_below BXp0_w4.out hb); have RIx20_w5 := am (RIx20_w4.out.below hb); clear HB_w4 BXp0_w4 RIx20_w4; clear hx402 hx403 hb
 go_upto_region 7 with (fail)
 have BX8_w6 := am (blk_new w5 (.cells #[.int .i64 t0, .int .i64 s0, .slice Ax402 l02.length cx402, .slice Ax403 l03.length cx403] 38)); have hb := below_alloc (Below.refl w5.heap.size w5) (.cells #[.int .i64 t0, .int .i64 s0, .slice Ax402 l02.length cx402, .slice Ax403 l03.length cx403] 38); have HZ_w6 := am (show w5.heap.size + 1 ≤ (w5.alloc (.cells #[.int .i64 t0, .int .i64 s0, .slice Ax402 l02.length cx402, .slice Ax403 l03.length cx403] 38)).heap.size by simp); have HB_w6 := am (below_then HB_w5.out HB_w5.out.size hb); have BXp0_w6 := am (blk_below BXp0_w5.out hb); have RIx20_w6 := am (RIx20_w5.out.below hb); have RIx40_w6 := am (RIx40_w5.out.below hb); clear HB_w5 BXp0_w5 RIx20_w5 RIx40_w5; clear hb; generalize w5.alloc _ = w6 at *; obtain ⟨hx0_0, hx0_1, hx0_2, hx0_3⟩ := bc4 BX8_w6.out
 go_wp2_with (fail)
 clear hx0_0 hx0_1 hx0_2 hx0_3; (with_reducible refine (impl_CountTuples.calls k t0 s0 _ _ l02 _ _ l03 a1 r0 r1 _ (tab_below HT.out HB_w6.out) RIx40_w6.out.reads.1 RIx40_w6.out.reads.2.1 RIx40_w6.out.reads.2.2.1 RIx40_w6.out.reads.2.2.2 HI.out).mono ?_); rintro e w7 ⟨rfl, hb⟩; have HZ_w7 := am (show w6.heap.size + 0 ≤ w7.heap.size by have := hb.size; omega); have HB_w7 := am (below_then HB_w6.out HB_w6.out.size hb); have BXp0_w7 := am (blk_below BXp0_w6.out hb); have RIx20_w7 := am (RIx20_w6.out.below hb); have RIx40_w7 := am (RIx40_w6.out.below hb); have BX8_w7 := am (blk_below BX8_w6.out hb); clear HB_w6 BXp0_w6 RIx20_w6 RIx40_w6 BX8_w6; clear hb
 go_upto_region 10 with (fail)
 have HB_w8 := am (below_drew1 HB_w7.out); have BXp0_w8 := am (blk_drew BXp0_w7.out); have RIx20_w8 := am (RIx20_w7.out.below (below_drew (Below.refl _ _))); have RIx40_w8 := am (RIx40_w7.out.below (below_drew (Below.refl _ _))); have BX8_w8 := am (blk_drew BX8_w7.out); clear HB_w7 BXp0_w7 RIx20_w7 RIx40_w7 BX8_w7; have HZ_w8 := am (show w7.heap.size + 0 ≤ w7.drew.heap.size by simp); refine start_ (n := 5) (S := fun w' => w'.cell? ⟨w5.heap.size, 0, none⟩ = some (.int .i64 t0) ∧ w'.cell? ⟨w5.heap.size, 1, none⟩ = some (.int .i64 s0) ∧ w'.cell? ⟨w5.heap.size, 2, none⟩ = some (.slice Ax402 l02.length cx402) ∧ w'.cell? ⟨w5.heap.size, 3, none⟩ = some (.slice Ax403 l03.length cx403) ∧ w'.cell? ⟨w.heap.size, 0, none⟩ = some (.int .i64 t0) ∧ w'.cell? ⟨w.heap.size, 1, none⟩ = some (.int .i64 s0) ∧ w'.cell? ⟨w.heap.size, 2, none⟩ = some (.slice A02 l02.length c02) ∧ w'.cell? ⟨w.heap.size, 3, none⟩ = some (.slice A03 l03.length c03)) (ds := []) #[false, false, false, false, false] (by kernel_rfl) rfl rfl (bc8 BX8_w8.out BXp0_w8.out) (fun hHeld => ?_); generalize w7.drew = w8 at *; refine takeA8 0 (some 39) (bl 5 1) hHeld rfl rfl (h := ?_); refine takeA8 1 (some 40) (bl 5 3) hHeld rfl rfl (h := ?_); refine oneA 2 (some 41) (bl 5 7) rfl rfl (fun K hK => ?_); refine goesA Tryd.func36 #[.agg #[.int .i64 t0, .int .i64 s0, .slice A02 l02.length c02, .slice A03 l03.length c03]] rfl (h := ?_); (with_reducible refine (laws_toRelation.calls k t0 s0 _ _ l02 _ _ l03 t0 s0 l02 l03 _ (Kd.C_below HR02.out HB_w8.out) HC02.out (Kd.C_below HR03.out HB_w8.out) HC03.out HT0.out).mono ?_); rintro e w9 ⟨vx602, vx603, rfl, hx602, hx603, hb⟩; obtain ⟨Ax602, cx602, hvx602⟩ := Kd.R_slice hx602; subst hvx602; obtain ⟨Ax603, cx603, hvx603⟩ := Kd.S_slice hx603; subst hvx603; have HZ_w9 := am (show w8.heap.size + 0 ≤ w9.heap.size by have := hb.size; omega); have RIx60_w9 := am (RelOwn.mk_ (base := w.heap.size) HB_w8.out.size hx602 hx603); have HB_w9 := am (below_then HB_w8.out HB_w8.out.size hb); have BXp0_w9 := am (blk_below BXp0_w8.out hb); have RIx20_w9 := am (RIx20_w8.out.below hb); have RIx40_w9 := am (RIx40_w8.out.below hb); have BX8_w9 := am (blk_below BX8_w8.out hb); clear HB_w8 BXp0_w8 RIx20_w8 RIx40_w8 BX8_w8; clear hx602 hx603 hb; refine ⟨_, rfl, ?_⟩; refine hK.out _ _ (bc8 BX8_w9.out BXp0_w9.out) (fun hHeld => ?_); clear hK K; refine normA (h := ?_); refine oneA 3 (some 42) (bl 5 15) rfl rfl (fun K hK => ?_); refine goesA Tryd.func29 #[.agg #[.int .i64 t0, .int .i64 s0, .slice Ax402 l02.length cx402, .slice Ax403 l03.length cx403], .agg #[.int .i64 t0, .int .i64 s0, .slice Ax602 l02.length cx602, .slice Ax603 l03.length cx603]] rfl (h := ?_); (with_reducible refine (laws_eqRelation.calls k t0 s0 _ _ l02 _ _ l03 t0 s0 _ _ l02 _ _ l03 true _ RIx40_w9.out.reads.1 RIx40_w9.out.reads.2.1 RIx40_w9.out.reads.2.2.1 RIx40_w9.out.reads.2.2.2 RIx60_w9.out.reads.1 RIx60_w9.out.reads.2.1 RIx60_w9.out.reads.2.2.1 RIx60_w9.out.reads.2.2.2 HE0.out).mono ?_); rintro e w10 ⟨rfl, hb⟩; have HZ_w10 := am (show w9.heap.size + 0 ≤ w10.heap.size by have := hb.size; omega); have HB_w10 := am (below_then HB_w9.out HB_w9.out.size hb); have BXp0_w10 := am (blk_below BXp0_w9.out hb); have RIx20_w10 := am (RIx20_w9.out.below hb); have RIx40_w10 := am (RIx40_w9.out.below hb); have BX8_w10 := am (blk_below BX8_w9.out hb); have RIx60_w10 := am (RIx60_w9.out.below hb); clear HB_w9 BXp0_w9 RIx20_w9 RIx40_w9 BX8_w9 RIx60_w9; clear hb; refine ⟨_, rfl, ?_⟩; refine hK.out _ _ (bc8 BX8_w10.out BXp0_w10.out) (fun hHeld => ?_); clear hK K; refine normA (h := ?_); refine pureA 4 (some 43) (bl 5 31) rfl rfl (h := ?_); refine done_ (by kernel_rfl) ?_; clear hHeld; clear RIx20_w10; clear RIx60_w10; go_wp2; go_ret; exact ⟨rfl, HB_w10.out⟩
theorem laws_FnExactCountTuples.exit0 (k : Nat) (t0 s0 : Int) (A02 : Option Addr) (c02 : Nat) (l02 : List Bool) (A03 : Option Addr) (c03 : Nat) (l03 : List (List Int)) (a1 : Int) (w : World) (htab : TabOK w) (hr02 : Kd.C Kd.bool w A02 l02.length l02) (hc02 : l02.length ≤ c02) (hr03 : Kd.C (Kd.slice 2 (Kd.int .i64)) w A03 l03.length l03) (hc03 : l03.length ≤ c03) (z1 : Int) (hz1 : laws_szRelation.f k t0 s0 l02 l03 1048576 = some z1)  (hsz1 : z1 < 0) :
  Calls Tryd.prog 7 #[.agg #[.int .i64 t0, .int .i64 s0, .slice A02 l02.length c02, .slice A03 l03.length c03], .int .i64 a1] w fun e w' => e = .returned (.bool true) ∧ Below w.heap.size w w' := by
 have HR02 := am hr02; have HC02 := am hc02; have HR03 := am hr03; have HC03 := am hc03; have HZ1 := am hz1; have HSZ1 := am hsz1; have HT := am htab; clear hr02 hc02 hr03 hc03 hz1 hsz1 htab; have HB_w := am (Below.refl w.heap.size w); go_enter Tryd.func7, Tryd.ntmps7
 go_wp2_with (fail)
 have HB_w1 := am (below_alloc (Below.refl w.heap.size w) (.cells #[.int .i64 t0, .int .i64 s0, .slice A02 l02.length c02, .slice A03 l03.length c03] 46)); have BXp0_w1 : Aside0 ((((w.alloc (.cells #[.int .i64 t0, .int .i64 s0, .slice A02 l02.length c02, .slice A03 l03.length c03] 46))).heap)[w.heap.size]? = some (.cells #[.int .i64 t0, .int .i64 s0, .slice A02 l02.length c02, .slice A03 l03.length c03] 46 (0, 0))) := am (by have q_ := (blk_new w (.cells #[.int .i64 t0, .int .i64 s0, .slice A02 l02.length c02, .slice A03 l03.length c03] 46)); simpa using q_); have HZ_w1 := am (show w.heap.size + 1 ≤ ((w.alloc (.cells #[.int .i64 t0, .int .i64 s0, .slice A02 l02.length c02, .slice A03 l03.length c03] 46))).heap.size by simp); generalize (w.alloc (.cells #[.int .i64 t0, .int .i64 s0, .slice A02 l02.length c02, .slice A03 l03.length c03] 46)) = w1 at *; (with_reducible refine (laws_szRelation.calls k t0 s0 _ _ l02 _ _ l03 1048576 z1 _ (Kd.C_below HR02.out HB_w1.out) HC02.out (Kd.C_below HR03.out HB_w1.out) HC03.out HZ1.out).mono ?_); rintro e w2 ⟨rfl, hb⟩; have HZ_w2 := am (show w1.heap.size + 0 ≤ w2.heap.size by have := hb.size; omega); have HB_w2 := am (below_then HB_w1.out HB_w1.out.size hb); have BXp0_w2 := am (blk_below BXp0_w1.out hb); clear HB_w1 BXp0_w1; clear hb; have hx_ : decide (z1 < 0) = true := decide_eq_true (by have q_ := HSZ1.out; omega); go_wp2; go_ret; exact ⟨rfl, HB_w2.out⟩
theorem laws_FnExactCountTuples.calls (k : Nat) (t0 s0 : Int) (A02 : Option Addr) (c02 : Nat) (l02 : List Bool) (A03 : Option Addr) (c03 : Nat) (l03 : List (List Int)) (a1 : Int) (w : World) (htab : TabOK w) (hr02 : Kd.C Kd.bool w A02 l02.length l02) (hc02 : l02.length ≤ c02) (hr03 : Kd.C (Kd.slice 2 (Kd.int .i64)) w A03 l03.length l03) (hc03 : l03.length ≤ c03) (h : laws_FnExactCountTuples.f k t0 s0 l02 l03 a1 = some true) :
  Calls Tryd.prog 7 #[.agg #[.int .i64 t0, .int .i64 s0, .slice A02 l02.length c02, .slice A03 l03.length c03], .int .i64 a1] w fun e w' => e = .returned (.bool true) ∧ Below w.heap.size w w' := by
 unfold laws_FnExactCountTuples.f at h; obtain ⟨z1, hz1, h⟩ := oB h; by_cases hsz1 : z1 < 0
 case pos => exact laws_FnExactCountTuples.exit0 k t0 s0 A02 c02 l02 A03 c03 l03 a1 w htab hr02 hc02 hr03 hc03 z1 hz1  hsz1
 rw [if_neg hsz1] at h; by_cases ht0 : laws_toRelation.f k t0 s0 l02 l03 = some (t0, s0, l02, l03)
 case neg => rw [if_neg ht0] at h; cases h
 rw [if_pos ht0] at h; obtain ⟨⟨r0, r1⟩, hS, h⟩ := oB h; dsimp only at h; by_cases hI : impl_CountTuples.f k t0 s0 l02 l03 a1 = some (r0, r1)
 case neg => rw [if_neg hI] at h; cases h
 rw [if_pos hI] at h; by_cases he0 : laws_eqRelation.f k t0 s0 l02 l03 t0 s0 l02 l03 = some true
 case neg => rw [if_neg he0] at h; cases h
 rw [if_pos he0] at h; exact laws_FnExactCountTuples.main k t0 s0 A02 c02 l02 A03 c03 l03 a1 w htab hr02 hc02 hr03 hc03 z1 r0 r1 hz1 ht0 hS hI he0 hsz1
def cellsOfD : DataW Unit → Array Value
 | .agg l => (l.map fun d => match d with | .lit x => x.value | _ => .bool false).toArray
 | _ => #[]
noncomputable def layAt (w : World) (g : Nat) (d : DataW Unit) : World := { w with heap := w.heap.modify g fun
 | .cells _ t frozen => .cells (cellsOfD d) t frozen
 | o => o }
noncomputable def laidWorld (os : Os) : World :=
 layAt (layAt (layAt (World.holding Tryd.prog os ⟨#[], #[], []⟩) 6 Rows.laid_math_bits_deBruijn32tab) 7 Rows.laid_math_bits_deBruijn64tab) 3 Rows.laid_internal_strconv_uint64pow10
def laid3 : List (String × DataW Unit) := [("math/bits.deBruijn32tab", Rows.laid_math_bits_deBruijn32tab), ("math/bits.deBruijn64tab", Rows.laid_math_bits_deBruijn64tab), ("internal/strconv.uint64pow10", Rows.laid_internal_strconv_uint64pow10)]
theorem laidWorld_met (os : Os) (args : Array Value) : laidMet Tryd.prog laid3 ((laidWorld os).forCall (fun _ _ => 0) ⟨#[], args, []⟩).memory :=
 laidMet_of_run (ps := (List.range 32).map (MemPlace.cell 6) ++ (List.range 64).map (MemPlace.cell 7) ++ (List.range 20).map (MemPlace.cell 3)) 8 (by kernel_rfl) (by kernel_rfl) (by kernel_rfl)
theorem pow_data : (Rows.laid_internal_strconv_uint64pow10 : DataW Unit) = Lib.tabData .u64 Lib.pow10Tab := by kernel_rfl
theorem tab_of_laid {W : World} (h : laidMet Tryd.prog laid3 W) : Lib.TabIs Tryd.prog W "internal/strconv.uint64pow10" .u64 Lib.pow10Tab := by
 obtain ⟨ps, ⟨_, _, _, _, _, _, _, _, _, _, ⟨_, _, _, _, _, _, _, _, _, _, ⟨g', t', cs, fuel, p, q, hg', ht', hvar, hd, _, _⟩, _⟩, _⟩, _⟩ := h
 obtain rfl := Option.some.inj ((show Tryd.prog.globalNamed "internal/strconv.uint64pow10" = some 3 by kernel_rfl).symm.trans hg')
 obtain rfl := Option.some.inj ((show (Tryd.prog.globals[3]?).map (·.type) = some 235 by kernel_rfl).symm.trans ht'); rw [pow_data] at hd; unfold Lib.TabIs; rw [hvar, ← Lib.cells_of_tab Tryd.underlying235 Tryd.underlying226 (by kernel_rfl) (by kernel_rfl) hd]
theorem tabOK_of {W : World} (h : laidMet Tryd.prog laid3 W) : TabOK W := Lib.tabBelow_of_tabIs (tab_of_laid h)
open Go.ChangeShapes Go.WideShapes Go.ChangeAt Go.Deep Go.Joins
/-- The rows of a relation, as a law's world reads them. -/
def RelIn (W : World) (A2 : Option Addr) (c2 : Nat) (l2 : List Bool) (A3 : Option Addr) (c3 : Nat) (l3 : List (List Int)) : Prop :=
 Kd.C Kd.bool W A2 l2.length l2 ∧ l2.length ≤ c2 ∧ Kd.C (Kd.slice 2 (Kd.int .i64)) W A3 l3.length l3 ∧ l3.length ≤ c3 ∧ l2.length ≤ 9223372036854775807 ∧ l3.length ≤ 9223372036854775807 ∧ (∀ x ∈ l3, x.length ≤ 9223372036854775807) ∧ ∀ x ∈ l3, ∀ n ∈ x, (Lit.int .i64 n).wf = true
theorem open_bool_row {H : Type} {enc : TypeId × Value → H} {W : World} {base : Nat} {held : Bool} {fuel : Nat} {v : Value} {x : DataW H × List MemPlace} (h : DataW.trod enc Tryd.prog W base (fun _ => true) held fuel 35 [v] = some x) :
  ∃ (A : Option Addr) (c : Nat) (l : List Bool), v = .slice A l.length c ∧ Kd.C Kd.bool W A l.length l ∧ l.length ≤ c ∧ l.length ≤ 9223372036854775807 := by
 rcases open_bools Tryd.underlying35 Tryd.underlying4 (by kernel_rfl) h with ⟨hcs, _⟩ | ⟨a, len, cap, B, hcs, _, hl, hm, _, hcell⟩
 ·simp at hcs; exact ⟨none, 0, [], by simpa using hcs, ⟨rfl, by simp, fun h => absurd h (by simp)⟩, by simp, by simp⟩
 ·simp at hcs; have hm' : cap ≤ 9223372036854775807 := hm; refine ⟨some a, cap, (List.range len).map B, by simpa using hcs, ⟨rfl, by simp; omega, fun _ => ⟨a, rfl, fun j p hj => ?_⟩⟩, by simpa using hl, by simp; omega⟩; have hjl := (List.getElem?_eq_some_iff.1 hj).1; simp at hjl; refine ⟨[.bool p], rfl, rfl, fun i u hu => ?_⟩
  have hi : i = 0 := by
   have := (List.getElem?_eq_some_iff.1 hu).1; simp at this; omega
  subst hi; simp at hu hj; obtain ⟨_, hj⟩ := hj; subst hu; rw [show j * Kd.bool.sz + 0 = j by simp [show Kd.bool.sz = 1 from rfl], hcell j (by omega)]
  simp_all
theorem open_int_row {W : World} {A : Option Addr} {L C : Nat} {Z : List Int} (hL : L ≤ C) (hC : C ≤ maxLen) (hZ : Z.length = C) (hN : A = none → C = 0) (hA : ∀ a', A = some a' → ∀ c, c < C → W.cell? (a'.add c) = some (.int .i64 (Z.getD c 0))) :
  Kd.C (Kd.int .i64) W A (Z.take L).length (Z.take L) := by
 have hC' : C ≤ 9223372036854775807 := hC; refine ⟨rfl, by simp; omega, fun h => ?_⟩
 cases A with
 | none => have := hN rfl; simp at h; omega
 | some a =>
  refine ⟨a, rfl, fun j p hj => ?_⟩; have hjl := (List.getElem?_eq_some_iff.1 hj).1; simp at hjl; refine ⟨[.int .i64 p], rfl, rfl, fun i u hu => ?_⟩
  have hi : i = 0 := by
   have := (List.getElem?_eq_some_iff.1 hu).1; simp at this; omega
  subst hi; simp at hu; subst hu; rw [show j * (Kd.int .i64).sz + 0 = j by simp [show (Kd.int .i64).sz = 1 from rfl], hA a rfl j (by omega)]; rw [List.getElem?_take] at hj; rw [if_pos (by omega)] at hj; simp [List.getD_eq_getElem?_getD, hj]
theorem open_rows {H : Type} {enc : TypeId × Value → H} {W : World} {base : Nat} {held : Bool} {fuel : Nat} {v : Value} {x : DataW H × List MemPlace} (h : DataW.trod enc Tryd.prog W base (fun _ => true) held fuel 36 [v] = some x) :
  ∃ (A : Option Addr) (c : Nat) (l : List (List Int)), v = .slice A l.length c ∧ Kd.C (Kd.slice 2 (Kd.int .i64)) W A l.length l ∧ l.length ≤ c ∧ l.length ≤ 9223372036854775807 ∧ (∀ x ∈ l, x.length ≤ 9223372036854775807) ∧ ∀ x ∈ l, ∀ n ∈ x, (Lit.int .i64 n).wf = true := by
 rcases open_int_rows Tryd.underlying36 Tryd.underlying25 Tryd.underlying2 (by kernel_rfl) (by kernel_rfl) h with ⟨hcs, _⟩ | ⟨a, len, cap, A, L, C, Z, hcs, _, hl, hm, _, hr⟩
 ·simp at hcs; exact ⟨none, 0, [], by simpa using hcs, ⟨rfl, by simp, fun h => absurd h (by simp)⟩, by simp, by simp, by simp, by simp⟩
 ·simp at hcs; have hm' : cap ≤ 9223372036854775807 := hm; refine ⟨some a, cap, (List.range len).map fun r => (Z r).take (L r), by simpa using hcs, ⟨rfl, by simp; omega, fun _ => ⟨a, rfl, fun j p hj => ?_⟩⟩, by simpa using hl, by simp; omega, ?_, ?_⟩
  ·have hjl := (List.getElem?_eq_some_iff.1 hj).1; simp at hjl; obtain ⟨g1, g2, g3, g4, g5, g6, g7⟩ := hr j (by omega); simp at hj; obtain ⟨_, hj⟩ := hj; (have ep : p = (Z j).take (L j) := by simp_all); subst ep; (have el : ((Z j).take (L j)).length = L j := by simp; omega); refine ⟨[.slice (A j) ((Z j).take (L j)).length (C j)], rfl, ⟨A j, C j, rfl, by omega, open_int_row g2 g3 g4 g6 fun a' ha => (g7 a' ha).2⟩, fun i u hu => ?_⟩
   have hi : i = 0 := by
    have := (List.getElem?_eq_some_iff.1 hu).1; simp at this; omega
   subst hi; rw [List.getElem?_cons_zero] at hu; injection hu with hu; subst hu; rw [show j * (Kd.slice 2 (Kd.int .i64)).sz + 0 = j by simp [show (Kd.slice 2 (Kd.int .i64)).sz = 1 from rfl], g1, el]
  ·intro y hy; obtain ⟨r, hrm, rfl⟩ := List.mem_map.1 hy; obtain ⟨g1, g2, g3, g4, g5, g6, g7⟩ := hr r (by have := List.mem_range.1 hrm; omega); have g3' : C r ≤ 9223372036854775807 := g3; simp; omega
  ·intro y hy n hn; obtain ⟨r, hrm, rfl⟩ := List.mem_map.1 hy; obtain ⟨g1, g2, g3, g4, g5, g6, g7⟩ := hr r (by have := List.mem_range.1 hrm; omega); exact g5 n (List.mem_of_mem_take hn)
theorem open_rel {H : Type} {enc : TypeId × Value → H} {W : World} {base : Nat} {held : Bool} {r : Reach} {b0 : Nat} {v : Value} {d : DataW H} {p : List MemPlace} (hv : Value.okWide Tryd.prog W r b0 46 v) (h : DataW.Trod enc Tryd.prog W base (fun _ => true) held 46 v d p) :
  ∃ (t s : Int) (A2 : Option Addr) (c2 : Nat) (l2 : List Bool) (A3 : Option Addr) (c3 : Nat) (l3 : List (List Int)), v = .agg #[.int .i64 t, .int .i64 s, .slice A2 l2.length c2, .slice A3 l3.length c3] ∧ (Lit.int .i64 t).wf = true ∧ (Lit.int .i64 s).wf = true ∧ RelIn W A2 c2 l2 A3 c3 l3 := by
 obtain ⟨v0, v1, v2, v3, y0, y1, y2, y3, n, rfl, _, _, h0, h1, h2, h3⟩ := open_agg4 Tryd.underlying46 (by kernel_rfl) (by kernel_rfl) hv h; obtain ⟨t, e0, _, w0⟩ := DataW.trod_int Tryd.underlying2 h0; obtain ⟨s, e1, _, w1⟩ := DataW.trod_int Tryd.underlying2 h1; injection e0 with e0; injection e1 with e1; subst e0; subst e1; obtain ⟨A2, c2, l2, rfl, g1, g2, g3⟩ := open_bool_row h2; obtain ⟨A3, c3, l3, rfl, k1, k2, k3, k4, k5⟩ := open_rows h3; exact ⟨t, s, A2, c2, l2, A3, c3, l3, rfl, w0, w1, g1, g2, k1, k2, g3, k3, k4, k5⟩
def lngR (W : Nat) (pads : List Int) (ac : List Bool) (ns : List (List Int)) : Int × Int → List Int → Bool
 | x, [] => decide (0 ≤ x.2) && rdOf false ac x.1
 | x, c :: w => decide (0 ≤ c) && (decide (c < (W : Int)) && (decide (0 ≤ x.2) && (decide (bits .andNot .i64 x.2 (rd pads c) = 0) && lngR W pads ac ns (stp ns x.1 c, rd pads c) w)))
theorem lngR_dead (W : Nat) (pads : List Int) (ac : List Bool) (ns : List (List Int)) (q : Int) (w : List Int) : lngR W pads ac ns (q, -1) w = false := by
 cases w <;> simp [lngR]
theorem rd_range {l : List Int} {p : Int → Prop} (h : ∀ x ∈ l, p x) {i : Int} (h0 : 0 ≤ i) (h1 : i < (l.length : Int)) : p (rd l i) := by
 (have : i.toNat < l.length := by omega); unfold rd; rw [List.getD_eq_getElem?_getD, List.getElem?_eq_getElem this]; exact h _ (List.getElem_mem this)
theorem places_law {W n : Nat} {pads : List Int} {ac : List Bool} {ns : List (List Int)} (hT : TableOK W n ns) (hn : ac.length = n) (hp : pads.length = W) (hp8 : ∀ x ∈ pads, 0 ≤ x ∧ x < 8) (hn2 : n ≤ 100000) {start : Int} (s0 : 0 ≤ start) (s1 : start < (n : Int)) {f : Nat} (hf : 1900002 ≤ f) :
  ∃ r, growL good2 (accT ac) (nextT pads ns) W f [(start, 0)] [] [] = some r ∧ TableOK W r.1.length r.2 ∧ 0 < r.1.length ∧ r.1.length ≤ 1900000 ∧ lng W r.1 r.2 0 = lngR W pads ac ns (start, 0) := by
 have hS : ∀ k c, (k = ((0 : Int), (-1 : Int)) ∨ (0 ≤ k.1 ∧ k.1 < (n : Int) ∧ 0 ≤ k.2 ∧ k.2 < 8)) → 0 ≤ c → c < (W : Int) → ∃ t, nextT pads ns k c = some t ∧ (t = ((0 : Int), (-1 : Int)) ∨ (0 ≤ t.1 ∧ t.1 < (n : Int) ∧ 0 ≤ t.2 ∧ t.2 < 8)) ∧ ∀ w, lngR W pads ac ns k (c :: w) = lngR W pads ac ns t w := by
  intro k c hk c0 c1
  rcases hk with rfl | ⟨k0, k1, k2, k3⟩
  ·exact ⟨(0, -1), by unfold nextT; rw [if_pos (by show (-1 : Int) < 0; omega)], .inl rfl, fun w => by rw [lngR_dead, lngR_dead]⟩
  ·have hpc := rd_range hp8 c0 (by omega); unfold nextT; rw [if_neg (by omega), at1_in c0 (by omega)]; simp only [Option.bind_some]; rw [show rdOf 0 pads c = rd pads c from rfl]; by_cases hb : bits .andNot .i64 k.2 (rd pads c) = 0
   ·rw [if_pos hb]; have hst := hT.stpd k0 k1 c0 c1; have hrow := hT.row k0 k1; rw [at1_in k0 (by rw [hT.1]; exact k1)]; simp only [Option.bind_some]; rw [show rdOf [] ns k.1 = ns.getD k.1.toNat [] from rfl, at1_in c0 (by rw [(hT.2 _ hrow).1]; exact c1)]; simp only [Option.bind_some]; refine ⟨_, rfl, .inr ⟨hst.1, hst.2, hpc.1, hpc.2⟩, fun w => ?_⟩; simp only [lngR, c0, c1, k2, hb, decide_true, Bool.true_and]; rfl
   ·rw [if_neg hb]; refine ⟨_, rfl, .inl rfl, fun w => ?_⟩; rw [lngR_dead]; simp [lngR, hb]
 have hA : ∀ k : Int × Int, (k = ((0 : Int), (-1 : Int)) ∨ (0 ≤ k.1 ∧ k.1 < (n : Int) ∧ 0 ≤ k.2 ∧ k.2 < 8)) → ∃ b, accT ac k = some b ∧ lngR W pads ac ns k [] = b := by
  intro k hk
  rcases hk with rfl | ⟨k0, k1, k2, k3⟩
  ·exact ⟨false, by unfold accT; rw [if_neg (by show ¬ (0 : Int) ≤ -1; omega)], lngR_dead _ _ _ _ _ _⟩
  ·exact ⟨rdOf false ac k.1, by unfold accT; rw [if_pos k2, at1_in k0 (by omega)], by simp [lngR, k2]⟩
 let U : List (Int × Int) := ((0 : Int), (-1 : Int)) :: (List.range n).flatMap fun (a : Nat) => (List.range 8).map fun (b : Nat) => ((a : Int), (b : Int))
 have hUl : U.length = n * 8 + 1 := by
  simp only [U, List.length_cons, List.length_flatMap, List.length_map, List.length_range, List.map_const', List.sum_replicate_nat]
 have hU : ∀ k : Int × Int, k ∈ U ↔ (k = ((0 : Int), (-1 : Int)) ∨ (0 ≤ k.1 ∧ k.1 < (n : Int) ∧ 0 ≤ k.2 ∧ k.2 < 8)) := by
  intro k; simp only [U, List.mem_cons, List.mem_flatMap, List.mem_range, List.mem_map]; constructor
  ·rintro (h | ⟨a, ha, b, hb, rfl⟩)
   ·exact .inl h
   ·exact .inr ⟨by simp, by simp; omega, by simp, by simp; omega⟩
  ·rintro (h | ⟨h0, h1, h2, h3⟩)
   ·exact .inl h
   ·exact .inr ⟨k.1.toNat, by omega, k.2.toNat, by omega, Prod.ext (by simp; omega) (by simp; omega)⟩
 have hst : (start, (0 : Int)) ∈ U := (hU _).2 (.inr ⟨s0, s1, by simp, by simp⟩)
 have total : ∃ r, growL good2 (accT ac) (nextT pads ns) W f [(start, 0)] [] [] = some r := by
  refine growL_some (U := U) (by rw [hUl]; omega) (fun k c hk c0 c1 => ?_) (fun k hk => ?_) f _ [] [] (by simp) (by intro k hk; simp at hk; subst hk; exact hst) (by simp) (by rw [hUl]; simp; omega)
  ·obtain ⟨t, ht, hSt, _⟩ := hS k c ((hU k).1 hk) c0 c1; refine ⟨t, ht, ?_, (hU t).2 hSt⟩
   rcases hSt with rfl | ⟨t0, t1, t2, t3⟩
   ·decide
   ·simp only [good2, inI64, Bool.and_eq_true, decide_eq_true_eq]; omega
  ·obtain ⟨b, hb, _⟩ := hA k ((hU k).1 hk); exact ⟨b, hb⟩
 obtain ⟨r, hr⟩ := total
 have ht := growL_table (S := fun k => k = ((0 : Int), (-1 : Int)) ∨ (0 ≤ k.1 ∧ k.1 < (n : Int) ∧ 0 ≤ k.2 ∧ k.2 < 8)) (Λ := lngR W pads ac ns)
  (fun k c t hk c0 c1 ht => by obtain ⟨t', ht', h1, h2⟩ := hS k c hk c0 c1; rw [ht] at ht'; obtain rfl := Option.some.inj ht'; exact ⟨h1, h2⟩)
  (fun k b hk hb => by obtain ⟨b', hb', h⟩ := hA k hk; rw [hb] at hb'; obtain rfl := Option.some.inj hb'; exact h)
  (fun k c w hc => by
   simp only [lngR]; by_cases c0 : 0 ≤ c
   ·simp [show ¬ c < (W : Int) from fun h => hc ⟨c0, h⟩]
   ·simp [c0])
  (.inr ⟨s0, s1, by simp, by simp⟩) hr
 exact ⟨r, hr, ht⟩
/-- 'tidy' makes the tidy table of the right language. -/
theorem tidy_law {W n : Nat} {pads : List Int} {ac : List Bool} {ns : List (List Int)} (hT : TableOK W n ns) (hn : ac.length = n) (hp : pads.length = W) (hp8 : ∀ x ∈ pads, 0 ≤ x ∧ x < 8) (hn2 : n ≤ 100000) (hW : W ≤ 1000) {start : Int} (s0 : 0 ≤ start) (s1 : start < (n : Int)) {f : Nat} (hf : 1900002 ≤ f) :
  ∃ p r, growL good2 (accT ac) (nextT pads ns) W f [(start, 0)] [] [] = some p ∧ (p.1.length ≤ 1900000 ∧ p.2.length = p.1.length ∧ ∀ row ∈ p.2, row.length ≤ 1000) ∧ mergedF W f 0 p.1 p.2 = some r ∧ tidyD W f (lngR W pads ac ns (start, 0)) = some r := by
 obtain ⟨p, hp1, hT2, hpos, hle, hl⟩ := places_law hT hn hp hp8 hn2 s0 s1 hf; obtain ⟨r, hr, hd⟩ := merged_law hT2 rfl hle (start := 0) (by omega) (by omega) (f := f) (by omega); exact ⟨p, r, hp1, ⟨hle, hT2.1, fun row hrow => by rw [(hT2.2 row hrow).1]; exact hW⟩, hr, by rw [← hl]; exact hd⟩
section
variable {W n m : Nat} {ac : List Bool} {ns : List (List Int)} {cl : List Int}
/-- The numbers of the classes that were met. -/
structure NuOK (n m : Nat) (cl : List Int) (nu l : List Int) : Prop where
 len : nu.length = m
 rng : ∀ s ∈ l, 0 ≤ s ∧ s < (n : Int)
 nod : (l.map (rd cl)).Nodup
 num : ∀ v : Int, 0 ≤ v → v < (m : Int) → (rd nu v < 0 ∧ ∀ s ∈ l, rd cl s ≠ v) ∨ ∃ (i : Nat) (s : Int), rd nu v = (i : Int) ∧ l[i]? = some s ∧ rd cl s = v
theorem rd_set_other {l : List Int} {i j x : Int} (h0 : 0 ≤ i) (h1 : 0 ≤ j) (h : i ≠ j) : rd (l.set i.toNat x) j = rd l j := by
 unfold rd; rw [List.getD_eq_getElem?_getD, List.getD_eq_getElem?_getD, List.getElem?_set, if_neg (by omega)]
theorem NuOK.push {nu l : List Int} (h : NuOK n m cl nu l) {t : Int} (t0 : 0 ≤ t) (t1 : t < (n : Int)) (c0 : 0 ≤ rd cl t) (c1 : rd cl t < (m : Int)) (hx : rd nu (rd cl t) < 0) : NuOK n m cl (nu.set (rd cl t).toNat (l.length : Int)) (l ++ [t]) := by
 have hnew : ∀ s ∈ l, rd cl s ≠ rd cl t := by
  rcases h.num _ c0 c1 with ⟨_, h2⟩ | ⟨i, s, h2, _⟩
  ·exact h2
  ·omega
 refine ⟨by simp [h.len], ?_, ?_, ?_⟩
 ·intro s hs
  rcases List.mem_append.1 hs with hs | hs
  ·exact h.rng s hs
  ·simp at hs; subst hs; exact ⟨t0, t1⟩
 ·rw [List.map_append]; refine List.nodup_append.2 ⟨h.nod, by simp, fun a ha b hb => ?_⟩; simp at hb; subst hb; obtain ⟨s, hs, rfl⟩ := List.mem_map.1 ha; exact hnew s hs
 ·intro v v0 v1; by_cases e : rd cl t = v
  ·subst e; right; exact ⟨l.length, t, rd_set_same c0 (by rw [h.len]; exact c1), by simp, rfl⟩
  ·rw [rd_set_other c0 v0 e]
   rcases h.num v v0 v1 with ⟨h2, h3⟩ | ⟨i, s, h2, h3, h4⟩
   ·left; refine ⟨h2, fun s hs => ?_⟩
    rcases List.mem_append.1 hs with hs | hs
    ·exact h3 s hs
    ·simp at hs; subst hs; exact e
   ·right; exact ⟨i, s, h2, getE_app h3, h4⟩
open Classical in
theorem trow_grow (hE : ClassEq W n ac ns (rd cl)) (hcl : cl.length = n) (hcm : ∀ i, 0 ≤ i → i < (n : Int) → 0 ≤ rd cl i ∧ rd cl i < (m : Int)) {nx : Int → Option (List Int → Bool)} :
  ∀ (ts : List Int) (c : Int) (nu l row : List Int) (L1 : List (List Int → Bool)) (row1 : List Int), (∀ t ∈ ts, 0 ≤ t ∧ t < (n : Int)) → (∀ j : Nat, ∀ t, ts[j]? = some t → nx (c + j) = some (lng W ac ns t)) → NuOK n m cl nu l →
   growRow (fun _ => true) nx ts.length c (l.map (lng W ac ns)) row = some (L1, row1) → ∃ nu1 l1, trowF cl ts nu l row = some (nu1, l1, row1) ∧ L1 = l1.map (lng W ac ns) ∧ NuOK n m cl nu1 l1 := by
 intro ts
 induction ts with
 | nil =>
  intro c nu l row L1 row1 _ _ hN h; simp only [List.length_nil, growRow, Option.some.injEq, Prod.mk.injEq] at h; obtain ⟨rfl, rfl⟩ := h; exact ⟨nu, l, rfl, rfl, hN⟩
 | cons t ts ih =>
  intro c nu l row L1 row1 ht hnx hN h; obtain ⟨t0, t1⟩ := ht t (by simp); obtain ⟨c0, c1⟩ := hcm t t0 t1; have hn0 := hnx 0 t (by simp); rw [show c + ((0 : Nat) : Int) = c by omega] at hn0; simp only [List.length_cons, growRow, hn0, Option.bind_some, if_true] at h
  have hnx' : ∀ j : Nat, ∀ t', ts[j]? = some t' → nx (c + 1 + j) = some (lng W ac ns t') := by
   intro j t' hj; have := hnx (j + 1) t' (by simpa using hj); rw [show c + 1 + (j : Int) = c + ((j + 1 : Nat) : Int) by omega]; exact this
  rw [trowF, at1_in t0 (by omega)]; simp only [Option.bind_some]; rw [show rdOf 0 cl t = rd cl t from rfl, at1_in c0 (by rw [hN.len]; exact c1)]; simp only [Option.bind_some]; rw [show rdOf 0 nu (rd cl t) = rd nu (rd cl t) from rfl]
  rcases hN.num _ c0 c1 with ⟨h2, h3⟩ | ⟨i, s, h2, h3, h4⟩
  ·rw [if_pos h2]
   have hmem : lng W ac ns t ∉ l.map (lng W ac ns) := by
    intro hm; obtain ⟨s, hs, he⟩ := List.mem_map.1 hm; obtain ⟨s0, s1⟩ := hN.rng s hs; exact h3 s hs ((hE s t s0 s1 t0 t1).2 he)
   rw [if_neg hmem, List.length_map] at h
   split at h
   ·next hlt =>
    rw [if_pos hlt]; have hN2 := NuOK.push hN t0 t1 c0 c1 h2; exact ih (c + 1) _ (l ++ [t]) _ L1 row1 (fun t' ht' => ht t' (by simp [ht'])) hnx' hN2 (by rw [List.map_append]; exact h)
   ·cases h
  ·rw [if_neg (by omega)]; obtain ⟨s0, s1⟩ := hN.rng s (List.mem_of_getElem? h3); have hls : lng W ac ns s = lng W ac ns t := (hE s t s0 s1 t0 t1).1 h4; have hi := (List.getElem?_eq_some_iff.1 h3).1; (have hmem : lng W ac ns t ∈ l.map (lng W ac ns) := by rw [← hls]; exact List.mem_map_of_mem (List.mem_of_getElem? h3)); rw [if_pos hmem] at h
   have hnodL : (l.map (lng W ac ns)).Nodup := by
    have := hN.nod
    rw [List.Nodup, List.pairwise_map] at this ⊢
    refine List.Pairwise.imp_of_mem ?_ this; intro a b ha hb hab e; obtain ⟨a0, a1⟩ := hN.rng a ha; obtain ⟨b0, b1⟩ := hN.rng b hb; exact hab ((hE a b a0 a1 b0 b1).2 e)
   have hix : (l.map (lng W ac ns)).idxOf (lng W ac ns t) = i := by
    have hi2 : i < (l.map (lng W ac ns)).length := by simpa using hi
    have hget : (l.map (lng W ac ns))[i] = lng W ac ns t := by
     rw [List.getElem_map, ← hls]
     congr 1
     exact (List.getElem?_eq_some_iff.1 h3).2
    rw [← hget, hnodL.idxOf_getElem]
   rw [hix] at h; rw [h2]; exact ih (c + 1) nu l _ L1 row1 (fun t' ht' => ht t' (by simp [ht'])) hnx' hN h
open Classical in
theorem tmain_grow (hT : TableOK W n ns) (hn : ac.length = n) (hE : ClassEq W n ac ns (rd cl)) (hcl : cl.length = n) (hcm : ∀ i, 0 ≤ i → i < (n : Int) → 0 ≤ rd cl i ∧ rd cl i < (m : Int)) :
  ∀ (f : Nat) (nu l : List Int) (bs : List Bool) (rs : List (List Int)) (r : List Bool × List (List Int)), NuOK n m cl nu l → growL (fun _ => true) (fun L => some (L [])) (fun L c => some fun w => L (c :: w)) W f (l.map (lng W ac ns)) bs rs = some r → tmainF cl ac ns f nu l bs rs = some r := by
 intro f
 induction f with
 | zero => intro nu l bs rs r _ h; simp [growL] at h
 | succ f ih =>
  intro nu l bs rs r hN h; simp only [growL] at h; rw [List.getElem?_map] at h; rw [tmainF]
  cases e : l[bs.length]? with
  | none => rw [e] at h; simpa using h
  | some s =>
   rw [e] at h
   simp only [Option.map_some, Option.bind_some] at h ⊢
   obtain ⟨s0, s1⟩ := hN.rng s (List.mem_of_getElem? e); rw [at1_in s0 (by rw [hT.1]; exact s1)]; simp only [Option.bind_some]; rw [at1_in s0 (by omega)]; simp only [Option.bind_some]; obtain ⟨⟨L1, row1⟩, hp, h⟩ := oB h; have hrow := hT.row s0 s1; obtain ⟨hrl, hrr⟩ := hT.2 _ hrow
   obtain ⟨nu1, l1, h1, rfl, hN1⟩ := trow_grow (m := m) (nx := fun c => some fun w => lng W ac ns s (c :: w)) hE hcl hcm (rdOf [] ns s) 0 nu l [] L1 row1 (fun t ht => hrr t ht) (fun j t hj => by
    have hjl := (List.getElem?_eq_some_iff.1 hj).1
    have e2 : stp ns s (j : Int) = t := by
     have : (ns.getD s.toNat [])[j]? = some t := hj; simp only [stp, rd, Int.toNat_natCast]; rw [List.getD_eq_getElem?_getD (l := ns.getD s.toNat []), this]; rfl
    rw [show (0 : Int) + (j : Int) = (j : Int) by omega]; rw [← e2]
    have hjW : (j : Int) < (W : Int) := by
     have : (rdOf [] ns s).length = W := hrl; omega
    show some (fun w => lng W ac ns s ((j : Int) :: w)) = some (lng W ac ns (stp ns s (j : Int)))
    congr 1
    funext w
    simp [lng, hjW]) hN (by rw [show (rdOf [] ns s).length = W from hrl]; exact hp)
   rw [h1]; simp only [Option.bind_some]; exact ih nu1 l1 _ _ r hN1 h
/-- .. as the tidy table of the first state's language. -/
theorem tmain_law (hT : TableOK W n ns) (hn : ac.length = n) (h1 : n ≤ 1900000) (h0 : 0 < n) (hE : ClassEq W n ac ns (rd cl)) (hcl : cl.length = n) (hcm : ∀ i, 0 ≤ i → i < (n : Int) → 0 ≤ rd cl i ∧ rd cl i < (m : Int)) {f : Nat} (hf : n + 2 ≤ f) :
  ∃ r, tmainF cl ac ns f ((List.replicate m (-1)).set (rd cl 0).toNat 0) [0] [] [] = some r ∧ tidyD W f (lng W ac ns 0) = some r := by
 classical
 have total : ∃ r, growL (fun _ => true) (fun L => some (L [])) (fun (L : List Int → Bool) c => some fun w => L (c :: w)) W f [lng W ac ns 0] [] [] = some r := by
  have hUm : ∀ q, 0 ≤ q → q < (n : Int) → lng W ac ns q ∈ (List.range n).map (fun q : Nat => lng W ac ns (q : Int)) := fun q q0 q1 => List.mem_map.2 ⟨q.toNat, List.mem_range.2 (by omega), by rw [show ((q.toNat : Nat) : Int) = q by omega]⟩; refine growL_some (U := (List.range n).map (fun q : Nat => lng W ac ns (q : Int))) (by simpa using h1) (fun k c hk c0 c1 => ?_) (fun k hk => ⟨_, rfl⟩) f _ [] [] (by simp) (by intro k hk; simp at hk; subst hk; exact hUm 0 (by omega) (by omega)) (by simp) (by simp; omega); obtain ⟨q, hq, rfl⟩ := List.mem_map.1 hk; have hq' := List.mem_range.1 hq; have hs := hT.stpd (q := (q : Int)) (by omega) (by omega) c0 c1; refine ⟨_, rfl, rfl, ?_⟩
  have e : (fun w => lng W ac ns (q : Int) (c :: w)) = lng W ac ns (stp ns (q : Int) c) := by
   funext w
   simp [lng, c0, c1]
  rw [e]; exact hUm _ hs.1 hs.2
 obtain ⟨r, hr⟩ := total; have hc0 := hcm 0 (by omega) (by omega); refine ⟨r, tmain_grow hT hn hE hcl hcm f _ [0] [] [] r ?_ (by simpa using hr), hr⟩; refine ⟨by simp, by simp; omega, by simp, fun v v0 v1 => ?_⟩; by_cases e : rd cl 0 = v
 ·right; exact ⟨0, 0, by rw [← e]; exact rd_set_same hc0.1 (by simp; omega), by simp, e⟩
 ·left; rw [rd_set_other hc0.1 v0 e]; refine ⟨?_, by simpa using e⟩
  have : rd (List.replicate m (-1)) v = -1 := by
   (have hv : v.toNat < m := by omega); simp [rd, List.getD_eq_getElem?_getD, hv]
  omega
end
section
variable {W n : Nat} {ac : List Bool} {ns : List (List Int)} {cl : List Int} {t s0 : Int}
def SameC (W : Nat) (ns : List (List Int)) (g : Int → Int) (a b : Int) : Prop := g a = g b ∧ ∀ c, 0 ≤ c → c < (W : Int) → g (stp ns a c) = g (stp ns b c)
theorem SameC.symm {g : Int → Int} {a b : Int} (h : SameC W ns g a b) : SameC W ns g b a := ⟨h.1.symm, fun c c0 c1 => (h.2 c c0 c1).symm⟩
theorem SameC.trans {g : Int → Int} {a b c : Int} (h : SameC W ns g a b) (h2 : SameC W ns g b c) : SameC W ns g a c := ⟨h.1.trans h2.1, fun d c0 c1 => (h.2 d c0 c1).trans (h2.2 d c0 c1)⟩
theorem wrap_small {x : Int} (h0 : 0 ≤ x) (h1 : x ≤ 1000000000) : wrap64 (x + 1) = x + 1 := by unfold wrap64; omega
theorem alike_law (hT : TableOK W n ns) (hcl : cl.length = n) (hW : W ≤ 1000) {a b : Int} (a0 : 0 ≤ a) (a1 : a < (n : Int)) (b0 : 0 ≤ b) (b1 : b < (n : Int)) :
  ∀ (d k : Nat) (c : Int), 0 ≤ c → c + d = (W : Int) → d < k → ∃ B, spec_l01Alike.l0 k cl a b c t s0 ac ns = some (B, t, s0) ∧ (B = true ↔ ∀ c', c ≤ c' → c' < (W : Int) → rd cl (stp ns a c') = rd cl (stp ns b c')) := by
 have hra := hT.2 _ (hT.row a0 a1); have hrb := hT.2 _ (hT.row b0 b1); (have la : ((rd_L5 ns a).length : Int) = (W : Int) := by rw [show rd_L5 ns a = ns.getD a.toNat [] from rfl, hra.1]); (have lb : ((rd_L5 ns b).length : Int) = (W : Int) := by rw [show rd_L5 ns b = ns.getD b.toNat [] from rfl, hrb.1]); intro d
 induction d with
 | zero =>
  intro k c c0 hc hk; obtain ⟨k, rfl⟩ : ∃ m, k = m + 1 := ⟨k - 1, by omega⟩; refine ⟨true, ?_, by simp; intro c' h1 h2; omega⟩; simp only [spec_l01Alike.l0]; rw [if_pos a0, if_pos (by rw [hT.1]; exact a1), if_neg (by rw [la]; omega)]
 | succ d ih =>
  intro k c c0 hc hk; obtain ⟨k, rfl⟩ : ∃ m, k = m + 1 := ⟨k - 1, by omega⟩; have sa := hT.stpd a0 a1 c0 (by omega); have sb := hT.stpd b0 b1 c0 (by omega); simp only [spec_l01Alike.l0]; rw [show rd (rd_L5 ns a) c = stp ns a c from rfl, show rd (rd_L5 ns b) c = stp ns b c from rfl, if_pos a0, if_pos (by rw [hT.1]; exact a1), if_pos (by rw [la]; omega), if_pos c0, if_pos sa.1, if_pos (by rw [hcl]; exact sa.2), if_pos b0, if_pos (by rw [hT.1]; exact b1), if_pos (by rw [lb]; omega), if_pos sb.1, if_pos (by rw [hcl]; exact sb.2)]; by_cases e : rd cl (stp ns a c) = rd cl (stp ns b c)
  ·rw [if_pos e, wrap_small c0 (by omega)]; obtain ⟨B, h, hB⟩ := ih k (c + 1) (by omega) (by omega) (by omega); refine ⟨B, h, hB.trans ⟨fun h c' h1 h2 => ?_, fun h c' h1 h2 => h c' (by omega) h2⟩⟩; by_cases e2 : c' = c
   ·rw [e2]; exact e
   ·exact h c' (by omega) h2
  ·rw [if_neg e]; exact ⟨false, rfl, by simp; exact ⟨c, by omega, by omega, e⟩⟩
/-- The search among the first ones. -/
theorem search_law (hT : TableOK W n ns) (hcl : cl.length = n) (hW : W ≤ 1000) (hn : n ≤ 1000000) {s : Int} (q0 : 0 ≤ s) (q1 : s < (n : Int)) {x7 x8 : List Int} (h7 : x7.length = n) (hneg : rd x7 s < 0) (h8 : ∀ f ∈ x8, 0 ≤ f ∧ f < (n : Int)) (h8l : x8.length ≤ n) {r : List Int × Int × Int × Int} {K : Nat}
  (hnone : (∀ f ∈ x8, ¬ SameC W ns (rd cl) f s) → ∀ k, K ≤ k → spec_l01Finer.l0 k cl (n : Int) (x7.set s.toNat (x8.length : Int)) (x8 ++ [s]) (s + 1) t s0 ac ns = some r)
  (hsome : ∀ (i : Nat) (f : Int), x8[i]? = some f → SameC W ns (rd cl) f s → ∀ k, K ≤ k → spec_l01Finer.l0 k cl (n : Int) (x7.set s.toNat (i : Int)) x8 (s + 1) t s0 ac ns = some r) :
  ∀ (d k j : Nat), j + d = x8.length → (∀ (i : Nat) f, i < j → x8[i]? = some f → ¬ SameC W ns (rd cl) f s) → K + 2 * d + W + 10 ≤ k → spec_l01Finer.l1 k cl (n : Int) x7 x8 s (j : Int) t s0 ac ns = some r := by
 intro d
 induction d with
 | zero =>
  intro k j hj hno hk; obtain ⟨k, rfl⟩ : ∃ m, k = m + 2 := ⟨k - 2, by omega⟩; rw [spec_l01Finer.l1, if_neg (by omega), spec_l01Finer.j2, if_neg (by simp), if_pos q0, if_pos (by rw [h7]; exact q1), if_pos hneg, if_pos (by omega), wrap_small q0 (by omega)]; refine hnone (fun f hf => ?_) k (by omega); obtain ⟨i, hi, he⟩ := List.getElem_of_mem hf; exact hno i f (by omega) (by rw [List.getElem?_eq_getElem hi, he])
 | succ d ih =>
  intro k j hj hno hk; obtain ⟨k, rfl⟩ : ∃ m, k = m + 2 := ⟨k - 2, by omega⟩; (have hj2 : j < x8.length := by omega); have hget : x8[j]? = some (rd x8 (j : Int)) := get_rd (i := (j : Int)) (by omega) (by omega); have hf := h8 _ (List.mem_of_getElem? hget); rw [spec_l01Finer.l1, if_pos (by omega), if_pos q0, if_pos (by rw [h7]; exact q1), spec_l01Finer.j2, if_pos (by simpa using hneg), if_pos (by omega), if_pos (by omega), if_pos hf.1, if_pos (by rw [hcl]; exact hf.2), if_pos q0, if_pos (by rw [hcl]; exact q1)]
  have next : ¬ SameC W ns (rd cl) (rd x8 (j : Int)) s → spec_l01Finer.l1 k cl (n : Int) x7 x8 s (wrap64 ((j : Int) + 1)) t s0 ac ns = some r := by
   intro hns; rw [wrap_small (by omega) (by omega)]
   exact ih k (j + 1) (by omega) (fun i f hi hif => by
    by_cases e : i = j
    ·subst e; rw [hget] at hif; obtain rfl := Option.some.inj hif; exact hns
    ·exact hno i f (by omega) hif) (by omega)
  by_cases e : rd cl (rd x8 (j : Int)) = rd cl s
  ·rw [if_pos e]; obtain ⟨B, hB, hBi⟩ := alike_law (t := t) (s0 := s0) (ac := ac) hT hcl hW hf.1 hf.2 q0 q1 W k 0 (by omega) (by omega) (by omega); rw [spec_l01Alike.f, hB]; simp only [Option.bind_some]; by_cases hBt : B = true
   ·have hs : SameC W ns (rd cl) (rd x8 (j : Int)) s := ⟨e, fun c c0 c1 => (hBi.1 hBt) c c0 c1⟩; rw [if_pos hBt, if_pos (by rw [h7]; exact q1), wrap_small (by omega) (by omega)]
    -- the next round ends the search, since the class is there now
    obtain ⟨k, rfl⟩ : ∃ m, k = m + 2 := ⟨k - 2, by omega⟩; have hrd : rd (x7.set s.toNat (j : Int)) s = (j : Int) := rd_set_same q0 (by rw [h7]; exact q1)
    have key : spec_l01Finer.j2 (k + 1) cl (n : Int) (x7.set s.toNat (j : Int)) x8 s ((j : Int) + 1) false t s0 ac ns = some r := by
     rw [spec_l01Finer.j2, if_neg (by simp), if_pos q0, if_pos (by rw [List.length_set, h7]; exact q1), if_neg (by rw [hrd]; omega), wrap_small q0 (by omega)]; exact hsome j _ hget hs k (by omega)
    rw [spec_l01Finer.l1]; by_cases e3 : (j : Int) + 1 < (x8.length : Int)
    ·rw [if_pos e3, if_pos q0, if_pos (by rw [List.length_set, h7]; exact q1), hrd, show decide ((j : Int) < 0) = false by simp]; exact key
    ·rw [if_neg e3]; exact key
   ·rw [if_neg hBt]; exact next (fun hs => hBt (hBi.2 (fun c' h1 h2 => hs.2 c' h1 h2)))
  ·rw [if_neg e]; exact next (fun hs => e hs.1)
/-- What holds of the classes found so far. -/
structure FindOK (W n : Nat) (ns : List (List Int)) (g : Int → Int) (s : Nat) (x7 x8 : List Int) : Prop where
 l7 : x7.length = n
 r8 : ∀ f ∈ x8, 0 ≤ f ∧ f < (s : Int)
 l8 : x8.length ≤ s
 apart : ∀ (i j : Nat) a b, x8[i]? = some a → x8[j]? = some b → SameC W ns g a b → i = j
 cls : ∀ i : Int, 0 ≤ i → i < (s : Int) → ∃ (j : Nat) (f : Int), rd x7 i = (j : Int) ∧ x8[j]? = some f ∧ SameC W ns g f i
 own : ∀ (j : Nat) f, x8[j]? = some f → rd x7 f = (j : Int)
theorem finer_l0 (hT : TableOK W n ns) (hcl : cl.length = n) (hW : W ≤ 1000) (hn : n ≤ 1000000) :
  ∀ (d : Nat) (s : Nat) (x7 x8 : List Int), s + d = n → FindOK W n ns (rd cl) s x7 x8 → ∃ (l : List Int) (x : List Int), FindOK W n ns (rd cl) n l x ∧ ∀ k, d * (2 * n + W + 20) + 1 ≤ k → spec_l01Finer.l0 k cl (n : Int) x7 x8 (s : Int) t s0 ac ns = some (l, (x.length : Int), t, s0) := by
 intro d
 induction d with
 | zero =>
  intro s x7 x8 hs hF; (have : s = n := by omega); subst this; refine ⟨x7, x8, hF, fun k hk => ?_⟩; obtain ⟨k, rfl⟩ : ∃ m, k = m + 1 := ⟨k - 1, by omega⟩; rw [spec_l01Finer.l0, if_neg (by omega)]
 | succ d ih =>
  intro s x7 x8 hs hF; (have q1 : (s : Int) < (n : Int) := by omega); (have hl7 : (x7.set (s : Int).toNat (-1)).length = n := by rw [List.length_set]; exact hF.l7); (have hneg : rd (x7.set (s : Int).toNat (-1)) (s : Int) < 0 := by rw [rd_set_same (by omega) (by rw [hF.l7]; exact q1)]; omega); (have hother : ∀ (v i : Int), 0 ≤ i → i ≠ (s : Int) → rd (((x7.set (s : Int).toNat (-1))).set (s : Int).toNat v) i = rd x7 i := fun v i h0 hi => by rw [rd_set_other (by omega) h0 (fun e => hi e.symm), rd_set_other (by omega) h0 (fun e => hi e.symm)]); have hself : ∀ v : Int, rd (((x7.set (s : Int).toNat (-1))).set (s : Int).toNat v) (s : Int) = v := fun v => rd_set_same (by omega) (by rw [hl7]; exact q1); by_cases hex : ∃ (i : Nat) (f : Int), x8[i]? = some f ∧ SameC W ns (rd cl) f (s : Int)
  ·obtain ⟨i, f, hif, hsame⟩ := hex
   have hF2 : FindOK W n ns (rd cl) (s + 1) ((x7.set (s : Int).toNat (-1)).set (s : Int).toNat (i : Int)) x8 := by
    refine ⟨by rw [List.length_set]; exact hl7, fun f hf => ?_, by have := hF.l8; omega, hF.apart, ?_, ?_⟩
    ·have := hF.r8 f hf; omega
    ·intro i' h0 h1; by_cases e : i' = (s : Int)
     ·rw [e]; exact ⟨i, f, hself _, hif, hsame⟩
     ·rw [hother _ i' h0 e]; exact hF.cls i' h0 (by omega)
    ·intro j f' hj; have := hF.r8 f' (List.mem_of_getElem? hj); rw [hother _ f' this.1 (by omega)]; exact hF.own j f' hj
   obtain ⟨l, x, hFn, hr⟩ := ih (s + 1) _ _ (by omega) hF2; refine ⟨l, x, hFn, fun k hk => ?_⟩; rw [Nat.add_mul, Nat.one_mul] at hk; obtain ⟨k, rfl⟩ : ∃ m, k = m + 1 := ⟨k - 1, by omega⟩; rw [spec_l01Finer.l0, if_pos q1, if_pos (by omega), if_pos (by rw [hF.l7]; exact q1)]; (have h8l : x8.length ≤ n := by have := hF.l8; omega); refine search_law (K := d * (2 * n + W + 20) + 1) (x8 := x8) hT hcl hW hn (by omega) q1 hl7 hneg (fun f hf => by have := hF.r8 f hf; omega) h8l (fun hno => absurd hsame (hno f (List.mem_of_getElem? hif))) (fun i2 f2 hif2 hs2 k' hk' => ?_) x8.length k 0 (by omega) (fun _ _ h => by omega) (by omega); have : i2 = i := hF.apart i2 i f2 f hif2 hif (hs2.trans hsame.symm); subst this; rw [show (s : Int) + 1 = ((s + 1 : Nat) : Int) by omega]; exact hr k' hk'
  ·have hno : ∀ f ∈ x8, ¬ SameC W ns (rd cl) f (s : Int) := by
    intro f hf hsame; obtain ⟨i, hi, he⟩ := List.getElem_of_mem hf; exact hex ⟨i, f, by rw [List.getElem?_eq_getElem hi, he], hsame⟩
   have hF2 : FindOK W n ns (rd cl) (s + 1) ((x7.set (s : Int).toNat (-1)).set (s : Int).toNat (x8.length : Int)) (x8 ++ [(s : Int)]) := by
    have hlast : ∀ (j : Nat) (a : Int), (x8 ++ [(s : Int)])[j]? = some a → (x8[j]? = some a ∧ j < x8.length) ∨ (j = x8.length ∧ a = (s : Int)) := by
     intro j a hj; by_cases e : j < x8.length
     ·rw [List.getElem?_append_left e] at hj; exact .inl ⟨hj, e⟩
     ·have := (List.getElem?_eq_some_iff.1 hj).1; simp at this; (have e2 : j = x8.length := by omega); subst e2; rw [List.getElem?_append_right (Nat.le_refl _)] at hj; simp at hj; exact .inr ⟨rfl, hj.symm⟩
    refine ⟨by rw [List.length_set]; exact hl7, ?_, by have := hF.l8; simp; omega, ?_, ?_, ?_⟩
    ·intro f hf
     rcases List.mem_append.1 hf with hf | hf
     ·have := hF.r8 f hf; omega
     ·simp at hf; omega
    ·intro i j a b hi hj hab
     rcases hlast i a hi with ⟨h1, h2⟩ | ⟨h1, h2⟩ <;> rcases hlast j b hj with ⟨h3, h4⟩ | ⟨h3, h4⟩
     ·exact hF.apart i j a b h1 h3 hab
     ·subst h4; exact absurd hab (hno a (List.mem_of_getElem? h1))
     ·subst h2; exact absurd hab.symm (hno b (List.mem_of_getElem? h3))
     ·omega
    ·intro i' h0 h1; by_cases e : i' = (s : Int)
     ·rw [e]; exact ⟨x8.length, (s : Int), hself _, by simp, rfl, fun c _ _ => rfl⟩
     ·rw [hother _ i' h0 e]; obtain ⟨j, f, h2, h3, h4⟩ := hF.cls i' h0 (by omega); exact ⟨j, f, h2, getE_app h3, h4⟩
    ·intro j f' hj
     rcases hlast j f' hj with ⟨h1, h2⟩ | ⟨h1, h2⟩
     ·have := hF.r8 f' (List.mem_of_getElem? h1); rw [hother _ f' this.1 (by omega)]; exact hF.own j f' h1
     ·rw [h2, h1]; exact hself _
   obtain ⟨l, x, hFn, hr⟩ := ih (s + 1) _ _ (by omega) hF2; refine ⟨l, x, hFn, fun k hk => ?_⟩; rw [Nat.add_mul, Nat.one_mul] at hk; obtain ⟨k, rfl⟩ : ∃ m, k = m + 1 := ⟨k - 1, by omega⟩; rw [spec_l01Finer.l0, if_pos q1, if_pos (by omega), if_pos (by rw [hF.l7]; exact q1)]; (have h8l : x8.length ≤ n := by have := hF.l8; omega); refine search_law (K := d * (2 * n + W + 20) + 1) (x8 := x8) hT hcl hW hn (by omega) q1 hl7 hneg (fun f hf => by have := hF.r8 f hf; omega) h8l (fun _ k' hk' => ?_) (fun i2 f2 hif2 hs2 k' hk' => absurd hs2 (hno f2 (List.mem_of_getElem? hif2))) x8.length k 0 (by omega) (fun _ _ h => by omega) (by omega); rw [show (s : Int) + 1 = ((s + 1 : Nat) : Int) by omega]; exact hr k' hk'
theorem finer_law (hT : TableOK W n ns) (hcl : cl.length = n) (hW : W ≤ 1000) (hn : n ≤ 1000000) : ∃ (l : List Int) (m : Nat), l.length = n ∧ m ≤ n ∧ Finer W n ns (rd cl) (rd l) m ∧ ∀ k, n * (2 * n + W + 20) + 1 ≤ k → spec_l01Finer.f k t s0 ac ns cl = some (l, (m : Int), t, s0) := by
 obtain ⟨l, x, hF, hr⟩ := finer_l0 (t := t) (s0 := s0) (ac := ac) hT hcl hW hn n 0 (List.replicate n 0) [] (by omega) ⟨by simp, by simp, by simp, by simp, fun i h0 h1 => by omega, by simp⟩; refine ⟨l, x.length, hF.l7, hF.l8, ⟨?_, ?_, ?_⟩, fun k hk => ?_⟩
 ·intro i j i0 i1 j0 j1; obtain ⟨a, fa, h1, h2, h3⟩ := hF.cls i i0 i1; obtain ⟨b, fb, h4, h5, h6⟩ := hF.cls j j0 j1; rw [h1, h4]; constructor
  ·intro e; (have : a = b := by omega); subst this; rw [h2] at h5; obtain rfl := Option.some.inj h5; exact h3.symm.trans h6
  ·intro e; have := hF.apart a b fa fb h2 h5 ((h3.trans e).trans h6.symm); rw [this]
 ·intro i i0 i1; obtain ⟨a, fa, h1, h2, h3⟩ := hF.cls i i0 i1; have := (List.getElem?_eq_some_iff.1 h2).1; rw [h1]; omega
 ·intro k hk; have h8 := hF.r8 x[k] (List.getElem_mem hk); exact ⟨x[k], h8.1, h8.2, hF.own k x[k] (List.getElem?_eq_getElem hk)⟩
 ·unfold spec_l01Finer.f; rw [if_pos (by omega), if_pos (by omega), hcl]; simp only [Int.toNat_natCast]; exact hr k hk
end
section
variable {W n : Nat} {ac : List Bool} {ns : List (List Int)} {t : Int}
theorem tclass_some (hT : TableOK W n ns) (hW : W ≤ 1000) (hn : n ≤ 1000000) {k : Nat} (hk : n * (2 * n + W + 20) + 1 ≤ k) : ∀ (f count : Nat) (cl : List Int), cl.length = n → ClassOK W n ac ns (rd cl) → count ≤ n → (∀ k : Nat, k < count → ∃ i, 0 ≤ i ∧ i < (n : Int) ∧ rd cl i = (k : Int)) → n + 1 ≤ f + count →
  ∃ (g : List Int) (m : Nat), tclassF k t ac ns f (count : Int) cl = some (g, (m : Int)) ∧ g.length = n ∧ m ≤ n ∧ ClassEq W n ac ns (rd g) ∧ ∀ i, 0 ≤ i → i < (n : Int) → 0 ≤ rd g i ∧ rd g i < (m : Int) := by
 intro f
 induction f with
 | zero => intro count cl _ _ h1 _ h2; omega
 | succ f ih =>
  intro count cl hcl hC hc hm hf; obtain ⟨l, m, hl, hmn, hfin, hr⟩ := finer_law (t := t) (s0 := 0) (ac := ac) hT hcl hW hn; rw [tclassF, hr k hk]; simp only [Option.bind_some, and_self, if_true]; by_cases e : m = count
  ·subst e; rw [if_pos rfl]; exact ⟨l, m, rfl, hl, hmn, hC.eq hT hfin hm, hfin.lo⟩
  ·rw [if_neg (by omega)]; have := hfin.le hm; exact ih m l hl (hC.next hT hfin) hmn hfin.met (by omega)
/-- 'l01Tidied', behind 'l01Right', makes the tidy table of the first state's language. -/
theorem tidiedF_law (hT : TableOK W n ns) (hn : ac.length = n) (h0 : 0 < n) (hW : W ≤ 1000) (hn2 : n ≤ 1000000) {k f : Nat} (hk : n * (2 * n + W + 20) + 1 ≤ k) (hf : n + 2 ≤ f) : ∃ r, tidiedF k f t ac ns = some r ∧ tidyD W f (lng W ac ns 0) = some r := by
 obtain ⟨g, m, hg, hgl, hmn, hE, hb⟩ := tclass_some (ac := ac) (t := t) hT hW hn2 hk f 0 (bitL ac) (by simp [bitL, hn]) (bitL_class hn) (by omega) (fun k hk => by omega) (by omega); have hb0 := hb 0 (by omega) (by omega); obtain ⟨r, hr, hd⟩ := tmain_law (m := m) hT hn (by omega) h0 hE hgl hb hf; refine ⟨r, ?_, hd⟩; unfold tidiedF; rw [show ((0 : Nat) : Int) = 0 from rfl] at hg; rw [hg]; simp only [Option.bind_some]; rw [if_pos (by omega), at1_in (by omega) (by omega)]; simp only [Option.bind_some]; rw [show rdOf 0 g 0 = rd g 0 from rfl, if_pos hb0]
 simpa using hr
end
end Go.Proofs.YtelicdmaohllgaaDoor.X
