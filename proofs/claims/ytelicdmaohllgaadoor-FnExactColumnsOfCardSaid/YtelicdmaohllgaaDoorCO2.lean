import Derived.Test.YtelicdmaohllgaaDoorCO1
import Derived.Test.YtelicdmaohllgaaDoorRows
import Derived.Lib.LaidTab
import Derived.LaidLaws
import Derived.ChangeVars
import Derived.JoinedOf
import Derived.JoinedAt
import Derived.Deep.Matrix
import Derived.Deep.Grids
import Derived.Lib.SmallJoins
import Derived.ProofKit
import Derived.OpenShut
import Derived.SliceStrings
import Derived.ChangeSlices
import Derived.ChangeMaps5
namespace Go.Proofs.YtelicdmaohllgaaDoor.X
set_option maxHeartbeats 16000000
set_option maxRecDepth 100000
open Go.RowKit Go.Proofs.YtelicdmaohllgaaDoorW.PrintWords Go.Proofs.YtelicdmaohllgaaDoorW.PrintLast Go.Proofs.YtelicdmaohllgaaDoorW.PrintMore
attribute [local go_sem] max2_int min2_int max_two min_two max_three min_three max_four min_four
set_option linter.unusedVariables false
set_option linter.unusedSimpArgs false
def laws_markInt64S.l0 : Nat → List Int → Int → Int → Option (Int × List Int)
 | 0, _, _, _ => none
 | k + 1, x0, x1, x5 => if x5 < (x0.length : Int) then (if 0 ≤ x5 then (laws_markInt64S.l0 k (x0.set (x5 : Int).toNat x1) (wrap64 (x1 + 1)) (wrap64 (x5 + 1))) else (none)) else (some (x1, x0))
def laws_markInt64S.f (k : Nat) (l0 : List Int) (a1 : Int) : Option (Int × List Int) := laws_markInt64S.l0 k l0 a1 0
theorem laws_markInt64S.calls (k : Nat) (P0_ : Nat → Prop) (u9000_ : Value) (l0 : List Int) (a1 : Int) (r1 : Int) (r2 : List Int) (w0 w : World) (hB : Below w0.heap.size w0 w) (ho0 : Kd.R (Kd.int .i64) 2 w w0.heap.size P0_ u9000_ l0) (h : laws_markInt64S.f k l0 a1 = some (r1, r2)) :
  Calls Tryd.prog 23 #[u9000_, .int .i64 a1] w fun e w' => e = .returned (.int .i64 r1) ∧ Kd.R (Kd.int .i64) 2 w' w0.heap.size (fun k_ => (P0_ k_ ∨ w.heap.size ≤ k_)) u9000_ r2 ∧ Below w0.heap.size w0 w' ∧ Kept w w' (fun k_ => P0_ k_) := by
 have HO0 := am (show Kd.R (Kd.int .i64) 2 w w0.heap.size (fun k_ => (P0_ k_ ∨ w.heap.size ≤ k_)) u9000_ l0 from Kd.R_mono ho0 (fun k_ hk => (.inl hk))); have HK := am (Kept.refl w (fun k_ => P0_ k_)); have HW0 := am hB.size; have HB := am hB; clear hB; have H : (laws_markInt64S.l0 k l0 a1 0) = some (r1, r2) := h; clear h; have H' := am H; clear H; go_enter Tryd.func23, Tryd.ntmps23; go_wp2
 go_loopg [1, 5] k (fun kq v1 v5 w' => ∃ (x0_1 : List Int) (x1_1 : Int) (x5_1 : Int), v1 = .int .i64 x1_1 ∧ v5 = .int .i64 x5_1 ∧ Aside0 (laws_markInt64S.l0 kq x0_1 x1_1 x5_1 = some (r1, r2)) ∧ Aside0 (kq ≤ k) ∧ Aside0 (Kd.R (Kd.int .i64) 2 w' w0.heap.size (fun k_ => (P0_ k_ ∨ w.heap.size ≤ k_)) u9000_ x0_1) ∧ Aside0 (Kept w w' (fun k_ => P0_ k_)) ∧ Aside0 (Below w0.heap.size w0 w'))
 case atStart => exact ⟨(l0), (a1), (0), (tF), (tF), H', ⟨Nat.le_refl _⟩, ⟨by refine tR ?_; exact HO0.out⟩, ⟨tKp⟩, ⟨tB⟩⟩
 case round =>
  clear H'
  try clear c2; try clear p2
  obtain ⟨x0_1, x1_1, x5_1, rfl, rfl, HA, HK1, HO_0, HK, HB⟩ := hrel
  cases gk with
  | zero => exact absurd HA.out (by simp [laws_markInt64S.l0])
  | succ k1 =>
   have H := HA.out; clear HA; simp only [laws_markInt64S.l0] at H; by_cases c3 : x5_1 < (x0_1.length : Int)
   ·rw [if_pos c3] at H; have c3b0 := decide_eq_true c3; clear c3; by_cases c4 : 0 ≤ x5_1
    ·rw [if_pos c4] at H; have c4b0 := decide_eq_true c4; clear c4; obtain ⟨y172, hy172⟩ : ∃ y_ : List Int, y_ = (x0_1.set (x5_1 : Int).toNat x1_1) := ⟨_, rfl⟩; replace H : (laws_markInt64S.l0 k1 y172 (wrap64 (x1_1 + 1)) (wrap64 (x5_1 + 1))) = some (r1, r2) := tY hy172 H; have Ny172 := am hy172; clear hy172; have H' := am H; clear H; obtain ⟨Ao6, co6, eo6⟩ := Kd.R_slice HO_0.out; subst eo6; have p5 : 0 ≤ (x5_1 : Int) := oA; have q5 : (x5_1 : Int) < ((x0_1.length : Int) : Int) := oA; obtain ⟨go5, co5, eo5, gb5, gl5, cl5, HG5⟩ := Kd.R_form HO_0.out (by omega)
     (first | cases eo5 | (injection eo5 with ea_ en_ ec_; (first | subst ea_ | (injection ea_ with ea_; subst ea_)); subst ec_; clear en_))
     have GB5 := am gb5; have GG5 := am HG5; clear gb5 gl5 HG5; have HMgo5 := am (show (P0_ go5 ∨ w.heap.size ≤ go5) from (HO_0.out.1 _ rfl)); obtain ⟨hx5_0, hf5_0⟩ := Kd.R_celln 0 HO_0.out (x5_1 : Int) p5 q5; replace p5 := eq_true p5; replace q5 := eq_true q5; have HP7 := Kd.R_putg HO_0.out (x5_1 : Int) x1_1
     go_wp2_with (first | ((with_reducible refine gate_store (t := 2) (p := 15) rfl ?_); refine store_event (t := 2) (p := 15) (v := ?vo_w8) (w1 := (wr.setCell ⟨go5, (x5_1 : Int).toNat, none⟩ (.int .i64 x1_1))) ?hg ?ho ?hn ?hr ?_; (case ho => rfl); (case hg => rfl); (case hn => rfl); (case hr => first | (go_simp; done) | (go_simp; rfl)); intro w8 hw; have hg : wr.grownBy w8 (some go5) := (by rw [hw]; exact HP7.2); have hp_ : Kd.R (Kd.int .i64) 2 w8 w0.heap.size (fun k_ => (P0_ k_ ∨ w.heap.size ≤ k_)) (.slice (some ⟨go5, 0, none⟩) x0_1.length co6) y172 := (by rw [hw, Ny172.out]; exact HP7.1); clear HP7; replace HB := am ((by rw [hw]; exact below_set (HB.out) GB5.out : Below w0.heap.size w0 w8)); replace HK := am (Kept.of_grown (S := (fun k_ => P0_ k_)) hg (tKp) (fun k_ e_ => (HO_0.out.1 k_ e_))); replace HO_0 := am (hp_); clear hg hw hp_))
     go_roundg k1
     case measure => have := HK1.out; omega
     case rel => exact ⟨(y172), (wrap64 (x1_1 + 1)), (wrap64 (x5_1 + 1)), (tF), (tF), H', ⟨by have := HK1.out; omega⟩, ⟨by refine tR ?_; exact HO_0.out⟩, ⟨tKp⟩, ⟨tB⟩⟩
    ·rw [if_neg c4] at H; exact absurd H (by simp)
   ·rw [if_neg c3] at H; have c3b0 := decide_eq_false c3; clear c3; simp only [Option.some.injEq, Prod.mk.injEq] at H; obtain ⟨rfl, rfl⟩ := H; obtain ⟨Ao9, co9, eo9⟩ := Kd.R_slice HO_0.out; subst eo9; go_wp2; go_ret; exact ⟨tE, by refine tR ?_; exact HO_0.out, tB, tKp⟩
def laws_heldInt64S.l0 : Nat → List Int → Int → Int → Option (Int)
 | 0, _, _, _ => none
 | k + 1, x0, x1, x5 => if x5 < (x0.length : Int) then (if 0 ≤ x5 then (if (rd x0 x5) = x1 then (laws_heldInt64S.l0 k x0 (wrap64 (x1 + 1)) (wrap64 (x5 + 1))) else (some (-1))) else (none)) else (some x1)
def laws_heldInt64S.f (k : Nat) (l0 : List Int) (a1 : Int) : Option (Int) := laws_heldInt64S.l0 k l0 a1 0
theorem laws_heldInt64S.calls (k : Nat) (A0 : Option Addr) (c0 : Nat) (l0 : List Int) (a1 : Int) (r : Int) (w : World) (hr0 : Kd.C (Kd.int .i64) w A0 l0.length l0) (hc0 : l0.length ≤ c0) (h : laws_heldInt64S.f k l0 a1 = some r) :
  Calls Tryd.prog 24 #[.slice A0 l0.length c0, .int .i64 a1] w fun e w' => e = .returned (.int .i64 r) ∧ Drawn0 w w' := by
 have HR0 := am hr0; have HC0 := am hc0; clear hr0 hc0; have H : (laws_heldInt64S.l0 k l0 a1 0) = some r := h; clear h; have H' := am H; clear H; go_enter Tryd.func24, Tryd.ntmps24; go_wp2
 go_loopg [1, 5] k (fun kq v1 v5 w' => ∃ (x1_1 : Int) (x5_1 : Int), v1 = .int .i64 x1_1 ∧ v5 = .int .i64 x5_1 ∧ Aside0 (laws_heldInt64S.l0 kq l0 x1_1 x5_1 = some r) ∧ Aside0 (kq ≤ k) ∧ Drawn0 w w')
 case atStart => exact ⟨(a1), (0), (tF), (tF), H', ⟨Nat.le_refl _⟩, tD⟩
 case round =>
  clear H'
  try clear c2; try clear p2
  obtain ⟨x1_1, x5_1, rfl, rfl, HA, HK1, ⟨m1, rfl⟩⟩ := hrel
  cases gk with
  | zero => exact absurd HA.out (by simp [laws_heldInt64S.l0])
  | succ k1 =>
   have H := HA.out; clear HA; simp only [laws_heldInt64S.l0] at H; by_cases c3 : x5_1 < (l0.length : Int)
   ·rw [if_pos c3] at H; have c3b0 := decide_eq_true c3; clear c3; by_cases c4 : 0 ≤ x5_1
    ·rw [if_pos c4] at H; have c4b0 := decide_eq_true c4; clear c4; by_cases c5 : (rd l0 x5_1) = x1_1
     ·rw [if_pos c5] at H; have c5b0 : ((rd l0 x5_1) == x1_1) = true := beq_iff_eq.mpr c5; have c5b1 : ((rd l0 x5_1) != x1_1) = false := bne_eq_false_iff_eq.mpr c5; clear c5; have H' := am H; clear H; have p173 : 0 ≤ (x5_1 : Int) := oA; have q173 : x5_1 < (l0.length : Int) := oA; obtain ⟨ad173, e173, hx173_0⟩ := Kd.at_int HR0.out x5_1 p173 q173; cases e173; replace p173 := eq_true p173; replace q173 := eq_true q173; go_wp2; go_roundg k1
      case measure => have := HK1.out; omega
      case rel => exact ⟨(wrap64 (x1_1 + 1)), (wrap64 (x5_1 + 1)), (tF), (tF), H', ⟨by have := HK1.out; omega⟩, tD⟩
     ·rw [if_neg c5] at H; have c5b0 : ((rd l0 x5_1) == x1_1) = false := beq_eq_false_iff_ne.mpr c5; have c5b1 : ((rd l0 x5_1) != x1_1) = true := bne_iff_ne.mpr c5; obtain rfl := Option.some.inj H; have p173 : 0 ≤ (x5_1 : Int) := oA; have q173 : x5_1 < (l0.length : Int) := oA; obtain ⟨ad173, e173, hx173_0⟩ := Kd.at_int HR0.out x5_1 p173 q173; cases e173; replace p173 := eq_true p173; replace q173 := eq_true q173; go_wp2; go_ret; exact ⟨tF, tD⟩
    ·rw [if_neg c4] at H; exact absurd H (by simp)
   ·rw [if_neg c3] at H; have c3b0 := decide_eq_false c3; clear c3; obtain rfl := Option.some.inj H; go_wp2; go_ret; exact ⟨tF, tD⟩
mutual
def laws_FnExactColumnsOf.j0 : Nat → List ByteArray → List Int → Int → List ByteArray → List Int → Int → Bool → Option (Bool)
 | 0, _, _, _, _, _, _, _ => none
 | k + 1, x0, x4, x5, x6, x7, x8, x40 => if x40 = true then (some false) else ((laws_toStringS.f k x0).bind fun t190 => ((laws_eqStringS.f k x6 t190).bind fun t193 => (if t193 = true then ((laws_markStringS.f k x6 1).bind fun bt194 => (if bt194.1 < 0 then (laws_FnExactColumnsOf.j1 k x0 x4 x5 x7 true) else ((laws_eqInt64S.f k x7 x4).bind fun t196 => (if t196 = true then (laws_FnExactColumnsOf.j1 k x0 x4 x5 x7 (x8 != x5)) else (laws_FnExactColumnsOf.j1 k x0 x4 x5 x7 true))))) else (some false))))
def laws_FnExactColumnsOf.j1 : Nat → List ByteArray → List Int → Int → List Int → Bool → Option (Bool)
 | 0, _, _, _, _, _ => none
 | k + 1, x0, x4, x5, x7, x61 => if x61 = true then (some false) else ((laws_markInt64S.f k x7 1).bind fun bt197 => ((laws_heldInt64S.f k bt197.2 1).bind fun t199 => (if t199 < 0 then (some false) else (if t199 = bt197.1 then ((laws_toStringS.f k x0).bind fun t200 => ((impl_ColumnsOf.f k t200).bind fun bt203 => ((laws_eqInt64S.f k bt203.1 x4).bind fun t207 => (if t207 = true then (laws_FnExactColumnsOf.j2 k bt197.2 bt197.1 (bt203.2 != x5)) else (laws_FnExactColumnsOf.j2 k bt197.2 bt197.1 true))))) else (some false)))))
def laws_FnExactColumnsOf.j2 : Nat → List Int → Int → Bool → Option (Bool)
 | 0, _, _, _ => none
 | k + 1, x7, x10, x87 => if x87 = true then (some false) else ((laws_heldInt64S.f k x7 1).bind fun t208 => (if t208 < 0 then (some false) else (if t208 = x10 then (some true) else (some false))))
end
def laws_FnExactColumnsOf.f (k : Nat) (l0 : List ByteArray) : Option (Bool) := (laws_szStringS.f k l0 1048576).bind fun t174 => (if t174 < 0 then (some true) else ((laws_toStringS.f k l0).bind fun t175 => ((spec_ColumnsOf.f k t175).bind fun bt178 => ((laws_toStringS.f k l0).bind fun t182 => ((impl_ColumnsOf.f k t182).bind fun bt185 => ((laws_eqInt64S.f k bt185.1 bt178.1).bind fun t189 => (if t189 = true then (laws_FnExactColumnsOf.j0 k l0 bt178.1 bt178.2 t182 bt185.1 bt185.2 (bt185.2 != bt178.2)) else (laws_FnExactColumnsOf.j0 k l0 bt178.1 bt178.2 t182 bt185.1 bt185.2 true))))))))
theorem laws_FnExactColumnsOf.calls (k : Nat) (A0 : Option Addr) (c0 : Nat) (l0 : List ByteArray) (r : Bool) (w : World) (hr0 : Kd.C Kd.string w A0 l0.length l0) (hc0 : l0.length ≤ c0) (h : laws_FnExactColumnsOf.f k l0 = some r) :
  Calls Tryd.prog 4 #[.slice A0 l0.length c0] w fun e w' => e = .returned (.bool r) ∧ Below w.heap.size w w' := by
 have HR0 := am hr0; have HC0 := am hc0; clear hr0 hc0; have HB := am (Below.refl w.heap.size w); have H : ((laws_szStringS.f k l0 1048576).bind fun t174 => (if t174 < 0 then (some true) else ((laws_toStringS.f k l0).bind fun t175 => ((spec_ColumnsOf.f k t175).bind fun bt178 => ((laws_toStringS.f k l0).bind fun t182 => ((impl_ColumnsOf.f k t182).bind fun bt185 => ((laws_eqInt64S.f k bt185.1 bt178.1).bind fun t189 => (if t189 = true then (laws_FnExactColumnsOf.j0 k l0 bt178.1 bt178.2 t182 bt185.1 bt185.2 (bt185.2 != bt178.2)) else (laws_FnExactColumnsOf.j0 k l0 bt178.1 bt178.2 t182 bt185.1 bt185.2 true))))))))) = some r := h; clear h; replace H := Option.bind_eq_some_iff.mp H; obtain ⟨t174, A20, H⟩ := H; replace H : (if t174 < 0 then (some true) else ((laws_toStringS.f k l0).bind fun t175 => ((spec_ColumnsOf.f k t175).bind fun bt178 => ((laws_toStringS.f k l0).bind fun t182 => ((impl_ColumnsOf.f k t182).bind fun bt185 => ((laws_eqInt64S.f k bt185.1 bt178.1).bind fun t189 => (if t189 = true then (laws_FnExactColumnsOf.j0 k l0 bt178.1 bt178.2 t182 bt185.1 bt185.2 (bt185.2 != bt178.2)) else (laws_FnExactColumnsOf.j0 k l0 bt178.1 bt178.2 t182 bt185.1 bt185.2 true)))))))) = some r := H; have A2 := am A20; clear A20; by_cases c3 : t174 < 0
 ·rw [if_pos c3] at H; have c3b0 := decide_eq_true c3; clear c3; obtain rfl := Option.some.inj H; go_enter Tryd.func4, Tryd.ntmps4
  go_wp2_with (first | ((with_reducible refine gate_callee (f := 16) rfl ?_); refine goesLA (some 16) Tryd.func16 #[.slice A0 l0.length c0, .int .i64 1048576] rfl rfl rfl (h := ?_); (with_reducible refine (laws_szStringS.calls k _ _ l0 1048576 t174 _ ?side1 ?side2 A2.out).mono ?_); (case side1 => repeat (first | exact HR0.out | (with_reducible refine Kd.C_alloc ?_ _) | (with_reducible refine Kd.C_drewN ?_ _) | (with_reducible refine Kd.C_drew ?_))); (case side2 => exact HC0.out); rintro e w' ⟨rfl, ⟨nd, rfl⟩⟩; refine ⟨_, rfl, ?_⟩))
  go_ret; exact ⟨tE, tB⟩
 ·rw [if_neg c3] at H; have c3b0 := decide_eq_false c3; clear c3; replace H := Option.bind_eq_some_iff.mp H; obtain ⟨t175, A40, H⟩ := H; replace H : ((spec_ColumnsOf.f k t175).bind fun bt178 => ((laws_toStringS.f k l0).bind fun t182 => ((impl_ColumnsOf.f k t182).bind fun bt185 => ((laws_eqInt64S.f k bt185.1 bt178.1).bind fun t189 => (if t189 = true then (laws_FnExactColumnsOf.j0 k l0 bt178.1 bt178.2 t182 bt185.1 bt185.2 (bt185.2 != bt178.2)) else (laws_FnExactColumnsOf.j0 k l0 bt178.1 bt178.2 t182 bt185.1 bt185.2 true)))))) = some r := H; have A4 := am A40; clear A40; replace H := Option.bind_eq_some_iff.mp H; obtain ⟨⟨t178, t179⟩, A50, H⟩ := H; replace H : ((laws_toStringS.f k l0).bind fun t182 => ((impl_ColumnsOf.f k t182).bind fun bt185 => ((laws_eqInt64S.f k bt185.1 t178).bind fun t189 => (if t189 = true then (laws_FnExactColumnsOf.j0 k l0 t178 t179 t182 bt185.1 bt185.2 (bt185.2 != t179)) else (laws_FnExactColumnsOf.j0 k l0 t178 t179 t182 bt185.1 bt185.2 true))))) = some r := H; have A5 := am A50; clear A50; replace H := Option.bind_eq_some_iff.mp H; obtain ⟨t182, A60, H⟩ := H; replace H : ((impl_ColumnsOf.f k t182).bind fun bt185 => ((laws_eqInt64S.f k bt185.1 t178).bind fun t189 => (if t189 = true then (laws_FnExactColumnsOf.j0 k l0 t178 t179 t182 bt185.1 bt185.2 (bt185.2 != t179)) else (laws_FnExactColumnsOf.j0 k l0 t178 t179 t182 bt185.1 bt185.2 true)))) = some r := H; have A6 := am A60; clear A60; replace H := Option.bind_eq_some_iff.mp H; obtain ⟨⟨t185, t186⟩, A70, H⟩ := H; replace H : ((laws_eqInt64S.f k t185 t178).bind fun t189 => (if t189 = true then (laws_FnExactColumnsOf.j0 k l0 t178 t179 t182 t185 t186 (t186 != t179)) else (laws_FnExactColumnsOf.j0 k l0 t178 t179 t182 t185 t186 true))) = some r := H; have A7 := am A70; clear A70; have HC8 := am H; clear H; go_enter Tryd.func4, Tryd.ntmps4
  go_upto_region 8 with (first | ((with_reducible refine gate_callee (f := 16) rfl ?_); refine goesLA (some 16) Tryd.func16 #[.slice A0 l0.length c0, .int .i64 1048576] rfl rfl rfl (h := ?_); (with_reducible refine (laws_szStringS.calls k _ _ l0 1048576 t174 _ ?side1 ?side2 A2.out).mono ?_); (case side1 => repeat (first | exact HR0.out | (with_reducible refine Kd.C_alloc ?_ _) | (with_reducible refine Kd.C_drewN ?_ _) | (with_reducible refine Kd.C_drew ?_))); (case side2 => exact HC0.out); rintro e w' ⟨rfl, ⟨nd, rfl⟩⟩; refine ⟨_, rfl, ?_⟩) | ((with_reducible refine gate_callee (f := 18) rfl ?_); refine goesLA (some 21) Tryd.func18 #[.slice A0 l0.length c0] rfl rfl rfl (h := ?_); (with_reducible refine (laws_toStringS.calls k _ _ l0 t175 _ ?side1 ?side2 A4.out).mono ?_); (case side1 => repeat (first | exact HR0.out | (with_reducible refine Kd.C_alloc ?_ _) | (with_reducible refine Kd.C_drewN ?_ _) | (with_reducible refine Kd.C_drew ?_))); (case side2 => exact HC0.out); rintro e w9 ⟨v176, rfl, ho0, hb⟩; refine ⟨_, rfl, ?_⟩; have HO177 := am (Kd.R_lower ho0 (below_size (tB))); replace HB := am (below_step (tB) hb); (try clear hb); (try clear hb2); (try clear hk); (try clear hi); (try clear ho0); obtain ⟨Ao10, co10, eo10⟩ := Kd.R_slice HO177.out; subst eo10) | ((with_reducible refine gate_callee (f := 17) rfl ?_); refine goesLA (some 22) Tryd.func17 #[.slice Ao10 t175.length co10] rfl rfl rfl (h := ?_); (with_reducible refine (spec_ColumnsOf.calls k _ _ t175 t178 t179 _ ?side1 ?side2 A5.out).mono ?_); (case side1 => repeat (first | exact (Kd.R_reads' HO177.out).2.2 | (with_reducible refine Kd.C_alloc ?_ _) | (with_reducible refine Kd.C_drewN ?_ _) | (with_reducible refine Kd.C_drew ?_))); (case side2 => exact (Kd.R_reads' HO177.out).2.1); rintro e w11 ⟨v180, rfl, ho0, hb⟩; refine ⟨_, rfl, ?_⟩; replace HO177 := am (Kd.R_below (tR HO177.out) hb); have HO181 := am (Kd.R_lower ho0 (below_size (tB))); replace HB := am (below_step (tB) hb); (try clear hb); (try clear hb2); (try clear hk); (try clear hi); (try clear ho0)) | ((with_reducible refine gate_callee (f := 18) rfl ?_); refine goesLA (some 26) Tryd.func18 #[.slice A0 l0.length c0] rfl rfl rfl (h := ?_); (with_reducible refine (laws_toStringS.calls k _ _ l0 t182 _ ?side1 ?side2 A6.out).mono ?_); (case side1 => repeat (first | exact (Kd.C_below HR0.out HB.out) | (with_reducible refine Kd.C_alloc ?_ _) | (with_reducible refine Kd.C_drewN ?_ _) | (with_reducible refine Kd.C_drew ?_))); (case side2 => exact HC0.out); rintro e w12 ⟨v183, rfl, ho0, hb⟩; refine ⟨_, rfl, ?_⟩; replace HO181 := am (Kd.R_below (tR HO181.out) hb); have HO184 := am (Kd.R_lower (Kd.R_new' ho0 (Kd.R_lt (tR HO177.out))) (below_size (tB))); replace HO177 := am (Kd.R_elder' (tR HO177.out) (Kd.R_base ho0) hb); replace HB := am (below_step (tB) hb); (try clear hb); (try clear hb2); (try clear hk); (try clear hi); (try clear ho0); obtain ⟨Ao13, co13, eo13⟩ := Kd.R_slice HO184.out; subst eo13) | ((with_reducible refine gate_callee (f := 19) rfl ?_); refine goesLA (some 29) Tryd.func19 #[.slice Ao13 t182.length co13] rfl rfl rfl (h := ?_); (with_reducible refine (impl_ColumnsOf.calls k _ _ t182 t185 t186 _ ?side1 ?side2 A7.out).mono ?_); (case side1 => repeat (first | exact (Kd.R_reads' HO184.out).2.2 | (with_reducible refine Kd.C_alloc ?_ _) | (with_reducible refine Kd.C_drewN ?_ _) | (with_reducible refine Kd.C_drew ?_))); (case side2 => exact (Kd.R_reads' HO184.out).2.1); rintro e w14 ⟨v187, rfl, ho0, hb⟩; refine ⟨_, rfl, ?_⟩; replace HO177 := am (Kd.R_below (tR HO177.out) hb); replace HO184 := am (Kd.R_below (tR HO184.out) hb); have HO188 := am (Kd.R_lower (Kd.R_new' ho0 (Kd.R_lt (tR HO181.out))) (below_size (tB))); replace HO181 := am (Kd.R_elder' (tR HO181.out) (Kd.R_base ho0) hb); replace HB := am (below_step (tB) hb); (try clear hb); (try clear hb2); (try clear hk); (try clear hi); (try clear ho0)))
  (try simp only [Act.put, List.setIfInBounds_toArray, List.set_cons_zero, List.set_cons_succ])
  go_cut [40] (fun v40 wc => ∃ (kq : Nat) (x40_7 : Bool), v40 = .bool x40_7 ∧ Aside0 (laws_FnExactColumnsOf.j0 kq l0 t178 t179 t182 t185 t186 x40_7 = some r) ∧ Aside0 (kq ≤ k) ∧ Aside0 (Kd.R (Kd.int .i64) 2 wc w.heap.size (fun k_ => some k_ ≠ (v187 : Value).ownBlock) v180 t178) ∧ Aside0 (Kd.R Kd.string 9 wc w.heap.size (fun _ => True) (.slice Ao13 t182.length co13) t182) ∧ Aside0 (Kd.R (Kd.int .i64) 2 wc w.heap.size (fun k_ => some k_ ≠ (v180 : Value).ownBlock) v187 t185) ∧ Aside0 (Below w.heap.size w wc))
  case first =>
   have H := HC8.out; clear HC8; replace H := Option.bind_eq_some_iff.mp H; obtain ⟨t189, A150, H⟩ := H; replace H : (if t189 = true then (laws_FnExactColumnsOf.j0 k l0 t178 t179 t182 t185 t186 (t186 != t179)) else (laws_FnExactColumnsOf.j0 k l0 t178 t179 t182 t185 t186 true)) = some r := H; have A15 := am A150; clear A150; by_cases c16 : t189 = true
   ·subst c16; (have H1 : (laws_FnExactColumnsOf.j0 k l0 t178 t179 t182 t185 t186 (t186 != t179)) = some r := by rw [if_pos rfl] at H; exact H); clear H; have H := H1; clear H1; have H' := am H; clear H; obtain ⟨Ao17, co17, eo17⟩ := Kd.R_slice HO188.out; subst eo17; obtain ⟨Ao18, co18, eo18⟩ := Kd.R_slice HO181.out; subst eo18
    go_wp2_with (first | ((with_reducible refine gate_callee (f := 20) rfl ?_); refine goesLA (some 34) Tryd.func20 #[.slice Ao17 t185.length co17, .slice Ao18 t178.length co18] rfl rfl rfl (h := ?_); (with_reducible refine (laws_eqInt64S.calls k _ _ t185 _ _ t178 true _ ?side1 ?side2 ?side3 ?side4 A15.out).mono ?_); (case side1 => repeat (first | exact (Kd.R_reads' HO188.out).2.2 | (with_reducible refine Kd.C_alloc ?_ _) | (with_reducible refine Kd.C_drewN ?_ _) | (with_reducible refine Kd.C_drew ?_))); (case side2 => exact (Kd.R_reads' HO188.out).2.1); (case side3 => repeat (first | exact (Kd.R_reads' HO181.out).2.2 | (with_reducible refine Kd.C_alloc ?_ _) | (with_reducible refine Kd.C_drewN ?_ _) | (with_reducible refine Kd.C_drew ?_))); (case side4 => exact (Kd.R_reads' HO181.out).2.1); rintro e w' ⟨rfl, ⟨nd, rfl⟩⟩; refine ⟨_, rfl, ?_⟩))
    go_meet
    case rel => exact ⟨_, ((t186 != t179)), (tF), H', ⟨by first | omega | exact Nat.le_refl _⟩, ⟨by refine tR ?_; exact Kd.R_mono HO181.out (fun _ hk => hk.2)⟩, ⟨by refine tR ?_; exact Kd.R_mono HO184.out (fun _ hk => trivial)⟩, ⟨by refine tR ?_; exact Kd.R_mono HO188.out (fun _ hk => hk.2)⟩, ⟨tB⟩⟩
   ·replace c16 := Bool.eq_false_iff.mpr c16; subst c16; (have H1 : (laws_FnExactColumnsOf.j0 k l0 t178 t179 t182 t185 t186 true) = some r := by rw [if_neg (show ¬ (false = true) by decide)] at H; exact H); clear H; have H := H1; clear H1; have H' := am H; clear H; obtain ⟨Ao19, co19, eo19⟩ := Kd.R_slice HO188.out; subst eo19; obtain ⟨Ao20, co20, eo20⟩ := Kd.R_slice HO181.out; subst eo20
    go_wp2_with (first | ((with_reducible refine gate_callee (f := 20) rfl ?_); refine goesLA (some 34) Tryd.func20 #[.slice Ao19 t185.length co19, .slice Ao20 t178.length co20] rfl rfl rfl (h := ?_); (with_reducible refine (laws_eqInt64S.calls k _ _ t185 _ _ t178 false _ ?side1 ?side2 ?side3 ?side4 A15.out).mono ?_); (case side1 => repeat (first | exact (Kd.R_reads' HO188.out).2.2 | (with_reducible refine Kd.C_alloc ?_ _) | (with_reducible refine Kd.C_drewN ?_ _) | (with_reducible refine Kd.C_drew ?_))); (case side2 => exact (Kd.R_reads' HO188.out).2.1); (case side3 => repeat (first | exact (Kd.R_reads' HO181.out).2.2 | (with_reducible refine Kd.C_alloc ?_ _) | (with_reducible refine Kd.C_drewN ?_ _) | (with_reducible refine Kd.C_drew ?_))); (case side4 => exact (Kd.R_reads' HO181.out).2.1); rintro e w' ⟨rfl, ⟨nd, rfl⟩⟩; refine ⟨_, rfl, ?_⟩))
    go_meet
    case rel => exact ⟨_, (true), (tF), H', ⟨by first | omega | exact Nat.le_refl _⟩, ⟨by refine tR ?_; exact Kd.R_mono HO181.out (fun _ hk => hk.2)⟩, ⟨by refine tR ?_; exact Kd.R_mono HO184.out (fun _ hk => trivial)⟩, ⟨by refine tR ?_; exact Kd.R_mono HO188.out (fun _ hk => hk.2)⟩, ⟨tB⟩⟩
  case rest =>
   clear HC8
   try clear c1; try clear c2; try clear p2; try clear c3; try clear c3b0; try clear c4; try clear c16; try clear c17; try clear c18; try clear c19; try clear c20
   obtain ⟨kq, x40_7, rfl, HA, HJ7, HO_4, HO_6, HO_7, HB⟩ := hcut
   cases kq with
   | zero => exact absurd HA.out (by simp [laws_FnExactColumnsOf.j0])
   | succ kj7 =>
    have H := HA.out; clear HA; simp only [laws_FnExactColumnsOf.j0] at H; by_cases c21 : x40_7 = true
    ·subst c21; (have H1 : (some false) = some r := by rw [if_pos rfl] at H; exact H); clear H; have H := H1; clear H1; obtain rfl := Option.some.inj H; go_wp2; go_ret; exact ⟨tE, tB⟩
    ·replace c21 := Bool.eq_false_iff.mpr c21; subst c21; (have H1 : ((laws_toStringS.f kj7 l0).bind fun t190 => ((laws_eqStringS.f kj7 t182 t190).bind fun t193 => (if t193 = true then ((laws_markStringS.f kj7 t182 1).bind fun bt194 => (if bt194.1 < 0 then (laws_FnExactColumnsOf.j1 kj7 l0 t178 t179 t185 true) else ((laws_eqInt64S.f kj7 t185 t178).bind fun t196 => (if t196 = true then (laws_FnExactColumnsOf.j1 kj7 l0 t178 t179 t185 (t186 != t179)) else (laws_FnExactColumnsOf.j1 kj7 l0 t178 t179 t185 true))))) else (some false)))) = some r := by rw [if_neg (show ¬ (false = true) by decide)] at H; exact H); clear H; have H := H1; clear H1; replace H := Option.bind_eq_some_iff.mp H; obtain ⟨t190, A220, H⟩ := H; replace H : ((laws_eqStringS.f kj7 t182 t190).bind fun t193 => (if t193 = true then ((laws_markStringS.f kj7 t182 1).bind fun bt194 => (if bt194.1 < 0 then (laws_FnExactColumnsOf.j1 kj7 l0 t178 t179 t185 true) else ((laws_eqInt64S.f kj7 t185 t178).bind fun t196 => (if t196 = true then (laws_FnExactColumnsOf.j1 kj7 l0 t178 t179 t185 (t186 != t179)) else (laws_FnExactColumnsOf.j1 kj7 l0 t178 t179 t185 true))))) else (some false))) = some r := H; have A22 := am A220; clear A220; replace H := Option.bind_eq_some_iff.mp H; obtain ⟨t193, A230, H⟩ := H; replace H : (if t193 = true then ((laws_markStringS.f kj7 t182 1).bind fun bt194 => (if bt194.1 < 0 then (laws_FnExactColumnsOf.j1 kj7 l0 t178 t179 t185 true) else ((laws_eqInt64S.f kj7 t185 t178).bind fun t196 => (if t196 = true then (laws_FnExactColumnsOf.j1 kj7 l0 t178 t179 t185 (t186 != t179)) else (laws_FnExactColumnsOf.j1 kj7 l0 t178 t179 t185 true))))) else (some false)) = some r := H; have A23 := am A230; clear A230; by_cases c24 : t193 = true
     ·subst c24; (have H1 : ((laws_markStringS.f kj7 t182 1).bind fun bt194 => (if bt194.1 < 0 then (laws_FnExactColumnsOf.j1 kj7 l0 t178 t179 t185 true) else ((laws_eqInt64S.f kj7 t185 t178).bind fun t196 => (if t196 = true then (laws_FnExactColumnsOf.j1 kj7 l0 t178 t179 t185 (t186 != t179)) else (laws_FnExactColumnsOf.j1 kj7 l0 t178 t179 t185 true))))) = some r := by rw [if_pos rfl] at H; exact H); clear H; have H := H1; clear H1; replace H := Option.bind_eq_some_iff.mp H; obtain ⟨⟨t194, t195⟩, A250, H⟩ := H; replace H : (if t194 < 0 then (laws_FnExactColumnsOf.j1 kj7 l0 t178 t179 t185 true) else ((laws_eqInt64S.f kj7 t185 t178).bind fun t196 => (if t196 = true then (laws_FnExactColumnsOf.j1 kj7 l0 t178 t179 t185 (t186 != t179)) else (laws_FnExactColumnsOf.j1 kj7 l0 t178 t179 t185 true)))) = some r := H; have A25 := am A250; clear A250; have HC26 := am H; clear H
      go_upto_region 14 with (first | ((with_reducible refine gate_callee (f := 18) rfl ?_); refine goesLA (some 43) Tryd.func18 #[.slice A0 l0.length c0] rfl rfl rfl (h := ?_); (with_reducible refine (laws_toStringS.calls kj7 _ _ l0 t190 _ ?side1 ?side2 A22.out).mono ?_); (case side1 => repeat (first | exact (Kd.C_below HR0.out HB.out) | (with_reducible refine Kd.C_alloc ?_ _) | (with_reducible refine Kd.C_drewN ?_ _) | (with_reducible refine Kd.C_drew ?_))); (case side2 => exact HC0.out); rintro e w27 ⟨v191, rfl, ho0, hb⟩; refine ⟨_, rfl, ?_⟩; replace HO_4 := am (Kd.R_below (tR HO_4.out) hb); replace HO_7 := am (Kd.R_below (tR HO_7.out) hb); have HO192 := am (Kd.R_lower (Kd.R_new' ho0 (Kd.R_lt (tR HO_6.out))) (below_size (tB))); replace HO_6 := am (Kd.R_elder' (tR HO_6.out) (Kd.R_base ho0) hb); replace HB := am (below_step (tB) hb); (try clear hb); (try clear hb2); (try clear hk); (try clear hi); (try clear ho0); obtain ⟨Ao28, co28, eo28⟩ := Kd.R_slice HO192.out; subst eo28) | ((with_reducible refine gate_callee (f := 21) rfl ?_); refine goesLA (some 44) Tryd.func21 #[.slice Ao13 t182.length co13, .slice Ao28 t190.length co28] rfl rfl rfl (h := ?_); (with_reducible refine (laws_eqStringS.calls kj7 _ _ t182 _ _ t190 true _ ?side1 ?side2 ?side3 ?side4 A23.out).mono ?_); (case side1 => repeat (first | exact (Kd.R_reads' HO_6.out).2.2 | (with_reducible refine Kd.C_alloc ?_ _) | (with_reducible refine Kd.C_drewN ?_ _) | (with_reducible refine Kd.C_drew ?_))); (case side2 => exact (Kd.R_reads' HO_6.out).2.1); (case side3 => repeat (first | exact (Kd.R_reads' HO192.out).2.2 | (with_reducible refine Kd.C_alloc ?_ _) | (with_reducible refine Kd.C_drewN ?_ _) | (with_reducible refine Kd.C_drew ?_))); (case side4 => exact (Kd.R_reads' HO192.out).2.1); rintro e w' ⟨rfl, ⟨nd, rfl⟩⟩; refine ⟨_, rfl, ?_⟩) | ((with_reducible refine gate_callee (f := 22) rfl ?_); refine goesLA (some 48) Tryd.func22 #[.slice Ao13 t182.length co13, .int .i64 1] rfl rfl rfl (h := ?_); (with_reducible refine (laws_markStringS.calls kj7 (fun k_ => some k_ = (.slice Ao13 t182.length co13 : Value).ownBlock) (.slice Ao13 t182.length co13) t182 1 t194 t195 w _ ?side1 ?side2 A25.out).mono ?_); (case side1 => repeat (first | (with_reducible first | exact HB.out | apply below_alloc | apply pw_below_drewN | apply below_drew1) | exact HB.out)); (case side2 => exact Kd.R_tight rfl HO_6.out); rintro e w29 ⟨rfl, hy0, hb, hkp⟩; refine ⟨_, rfl, ?_⟩; replace HO_4 := am (Kd.R_mono (ok' := fun k_ => some k_ ≠ (v187 : Value).ownBlock) (Kd.R_keptB ((Kd.R_apart' HO_4.out (Kd.R_typed HO_6.out) (by decide))) hkp (fun k_ hk_ hs_ => (hk_.2) hs_)) (fun k_ hk_ => hk_.1.1)); replace HO_7 := am (Kd.R_mono (ok' := fun k_ => some k_ ≠ (v180 : Value).ownBlock) (Kd.R_keptB ((Kd.R_apart' HO_7.out (Kd.R_typed HO_6.out) (by decide))) hkp (fun k_ hk_ hs_ => (hk_.2) hs_)) (fun k_ hk_ => hk_.1.1)); replace HO_6 := am (Kd.R_reok rfl hy0 (fun k_ e_ => HO_6.out.1 k_ e_)); replace HO192 := am (Kd.R_mono (ok' := fun k_ => some k_ ≠ (.slice Ao13 t182.length co13 : Value).ownBlock) (Kd.R_keptB (HO192.out) hkp (fun k_ hk_ hs_ => (hk_.2) hs_)) (fun k_ hk_ => hk_.1.2)); replace HB := am (hb); (try clear hb); (try clear hkp); (try clear hy0)))
      (try simp only [Act.put, List.setIfInBounds_toArray, List.set_cons_zero, List.set_cons_succ])
      go_cut [61] (fun v61 wc => ∃ (kq : Nat) (x61_25 : Bool), v61 = .bool x61_25 ∧ Aside0 (laws_FnExactColumnsOf.j1 kq l0 t178 t179 t185 x61_25 = some r) ∧ Aside0 (kq ≤ kj7) ∧ Aside0 (Kd.R (Kd.int .i64) 2 wc w.heap.size (fun k_ => some k_ ≠ (v187 : Value).ownBlock) v180 t178) ∧ Aside0 (Kd.R (Kd.int .i64) 2 wc w.heap.size (fun k_ => some k_ ≠ (v180 : Value).ownBlock) v187 t185) ∧ Aside0 (Below w.heap.size w wc))
      case first =>
       have H := HC26.out; clear HC26; by_cases c30 : t194 < 0
       ·rw [if_pos c30] at H; have c30b0 := decide_eq_true c30; clear c30
        (first | rw [c30b0] | (simp only [i64_w, i32_w]; rw [c30b0]) | skip)
        have H' := am H; clear H; go_wp2
        go_meet
        case rel => exact ⟨_, (true), (tF), H', ⟨by have := HJ7.out; first | omega | exact Nat.le_refl _⟩, ⟨by refine tR ?_; exact HO_4.out⟩, ⟨by refine tR ?_; exact HO_7.out⟩, ⟨tB⟩⟩
       ·rw [if_neg c30] at H; have c30b0 := decide_eq_false c30; clear c30
        (first | rw [c30b0] | (simp only [i64_w, i32_w]; rw [c30b0]) | skip)
        replace H := Option.bind_eq_some_iff.mp H; obtain ⟨t196, A310, H⟩ := H; replace H : (if t196 = true then (laws_FnExactColumnsOf.j1 kj7 l0 t178 t179 t185 (t186 != t179)) else (laws_FnExactColumnsOf.j1 kj7 l0 t178 t179 t185 true)) = some r := H; have A31 := am A310; clear A310; by_cases c32 : t196 = true
        ·subst c32; (have H1 : (laws_FnExactColumnsOf.j1 kj7 l0 t178 t179 t185 (t186 != t179)) = some r := by rw [if_pos rfl] at H; exact H); clear H; have H := H1; clear H1; have H' := am H; clear H; obtain ⟨Ao33, co33, eo33⟩ := Kd.R_slice HO_7.out; subst eo33; obtain ⟨Ao34, co34, eo34⟩ := Kd.R_slice HO_4.out; subst eo34
         go_wp2_with (first | (go_at_call 20; (with_reducible refine (laws_eqInt64S.calls kj7 _ _ t185 _ _ t178 true _ ?side1 ?side2 ?side3 ?side4 A31.out).mono ?_); (case side1 => repeat (first | exact (Kd.R_reads' HO_7.out).2.2 | (with_reducible refine Kd.C_alloc ?_ _) | (with_reducible refine Kd.C_drewN ?_ _) | (with_reducible refine Kd.C_drew ?_))); (case side2 => exact (Kd.R_reads' HO_7.out).2.1); (case side3 => repeat (first | exact (Kd.R_reads' HO_4.out).2.2 | (with_reducible refine Kd.C_alloc ?_ _) | (with_reducible refine Kd.C_drewN ?_ _) | (with_reducible refine Kd.C_drew ?_))); (case side4 => exact (Kd.R_reads' HO_4.out).2.1); rintro e w' ⟨rfl, ⟨nd, rfl⟩⟩))
         go_meet
         case rel => exact ⟨_, ((t186 != t179)), (tF), H', ⟨by have := HJ7.out; first | omega | exact Nat.le_refl _⟩, ⟨by refine tR ?_; exact HO_4.out⟩, ⟨by refine tR ?_; exact HO_7.out⟩, ⟨tB⟩⟩
        ·replace c32 := Bool.eq_false_iff.mpr c32; subst c32; (have H1 : (laws_FnExactColumnsOf.j1 kj7 l0 t178 t179 t185 true) = some r := by rw [if_neg (show ¬ (false = true) by decide)] at H; exact H); clear H; have H := H1; clear H1; have H' := am H; clear H; obtain ⟨Ao35, co35, eo35⟩ := Kd.R_slice HO_7.out; subst eo35; obtain ⟨Ao36, co36, eo36⟩ := Kd.R_slice HO_4.out; subst eo36
         go_wp2_with (first | (go_at_call 20; (with_reducible refine (laws_eqInt64S.calls kj7 _ _ t185 _ _ t178 false _ ?side1 ?side2 ?side3 ?side4 A31.out).mono ?_); (case side1 => repeat (first | exact (Kd.R_reads' HO_7.out).2.2 | (with_reducible refine Kd.C_alloc ?_ _) | (with_reducible refine Kd.C_drewN ?_ _) | (with_reducible refine Kd.C_drew ?_))); (case side2 => exact (Kd.R_reads' HO_7.out).2.1); (case side3 => repeat (first | exact (Kd.R_reads' HO_4.out).2.2 | (with_reducible refine Kd.C_alloc ?_ _) | (with_reducible refine Kd.C_drewN ?_ _) | (with_reducible refine Kd.C_drew ?_))); (case side4 => exact (Kd.R_reads' HO_4.out).2.1); rintro e w' ⟨rfl, ⟨nd, rfl⟩⟩))
         go_meet
         case rel => exact ⟨_, (true), (tF), H', ⟨by have := HJ7.out; first | omega | exact Nat.le_refl _⟩, ⟨by refine tR ?_; exact HO_4.out⟩, ⟨by refine tR ?_; exact HO_7.out⟩, ⟨tB⟩⟩
      case rest =>
       clear HC26
       try clear c1; try clear c2; try clear p2; try clear c3; try clear c3b0; try clear c4; try clear c16; try clear c17; try clear c18; try clear c19; try clear c20; try clear c21; try clear c22; try clear c24; try clear c30; try clear c30b0; try clear c32; try clear p2
       obtain ⟨kq, x61_25, rfl, HA, HJ25, HO_4, HO_7, HB⟩ := hcut
       cases kq with
       | zero => exact absurd HA.out (by simp [laws_FnExactColumnsOf.j1])
       | succ kj25 =>
        have H := HA.out; clear HA; simp only [laws_FnExactColumnsOf.j1] at H; by_cases c37 : x61_25 = true
        ·subst c37; (have H1 : (some false) = some r := by rw [if_pos rfl] at H; exact H); clear H; have H := H1; clear H1; obtain rfl := Option.some.inj H; go_wp2; go_ret; exact ⟨tE, tB⟩
        ·replace c37 := Bool.eq_false_iff.mpr c37; subst c37; (have H1 : ((laws_markInt64S.f kj25 t185 1).bind fun bt197 => ((laws_heldInt64S.f kj25 bt197.2 1).bind fun t199 => (if t199 < 0 then (some false) else (if t199 = bt197.1 then ((laws_toStringS.f kj25 l0).bind fun t200 => ((impl_ColumnsOf.f kj25 t200).bind fun bt203 => ((laws_eqInt64S.f kj25 bt203.1 t178).bind fun t207 => (if t207 = true then (laws_FnExactColumnsOf.j2 kj25 bt197.2 bt197.1 (bt203.2 != t179)) else (laws_FnExactColumnsOf.j2 kj25 bt197.2 bt197.1 true))))) else (some false))))) = some r := by rw [if_neg (show ¬ (false = true) by decide)] at H; exact H); clear H; have H := H1; clear H1; replace H := Option.bind_eq_some_iff.mp H; obtain ⟨⟨t197, t198⟩, A380, H⟩ := H; replace H : ((laws_heldInt64S.f kj25 t198 1).bind fun t199 => (if t199 < 0 then (some false) else (if t199 = t197 then ((laws_toStringS.f kj25 l0).bind fun t200 => ((impl_ColumnsOf.f kj25 t200).bind fun bt203 => ((laws_eqInt64S.f kj25 bt203.1 t178).bind fun t207 => (if t207 = true then (laws_FnExactColumnsOf.j2 kj25 t198 t197 (bt203.2 != t179)) else (laws_FnExactColumnsOf.j2 kj25 t198 t197 true))))) else (some false)))) = some r := H; have A38 := am A380; clear A380; replace H := Option.bind_eq_some_iff.mp H; obtain ⟨t199, A390, H⟩ := H; replace H : (if t199 < 0 then (some false) else (if t199 = t197 then ((laws_toStringS.f kj25 l0).bind fun t200 => ((impl_ColumnsOf.f kj25 t200).bind fun bt203 => ((laws_eqInt64S.f kj25 bt203.1 t178).bind fun t207 => (if t207 = true then (laws_FnExactColumnsOf.j2 kj25 t198 t197 (bt203.2 != t179)) else (laws_FnExactColumnsOf.j2 kj25 t198 t197 true))))) else (some false))) = some r := H; have A39 := am A390; clear A390; by_cases c40 : t199 < 0
         ·rw [if_pos c40] at H; have c40b0 := decide_eq_true c40; clear c40; obtain rfl := Option.some.inj H; obtain ⟨Ao41, co41, eo41⟩ := Kd.R_slice HO_7.out; subst eo41
          go_wp2_with (first | ((with_reducible refine gate_callee (f := 23) rfl ?_); refine goesLA (some 64) Tryd.func23 #[.slice Ao41 t185.length co41, .int .i64 1] rfl rfl rfl (h := ?_); (with_reducible refine (laws_markInt64S.calls kj25 (fun k_ => some k_ = (.slice Ao41 t185.length co41 : Value).ownBlock) (.slice Ao41 t185.length co41) t185 1 t197 t198 w _ ?side1 ?side2 A38.out).mono ?_); (case side1 => repeat (first | (with_reducible first | exact HB.out | apply below_alloc | apply pw_below_drewN | apply below_drew1) | exact HB.out)); (case side2 => exact Kd.R_tight rfl HO_7.out); rintro e w42 ⟨rfl, hy0, hb, hkp⟩; refine ⟨_, rfl, ?_⟩; replace HO_4 := am (Kd.R_mono (ok' := fun k_ => some k_ ≠ (.slice Ao41 t185.length co41 : Value).ownBlock) (Kd.R_keptB (HO_4.out) hkp (fun k_ hk_ hs_ => (hk_) hs_)) (fun k_ hk_ => hk_.1)); replace HO_7 := am (Kd.R_reok rfl hy0 (fun k_ e_ => HO_7.out.1 k_ e_)); replace HB := am (hb); (try clear hb); (try clear hkp); (try clear hy0)) | ((with_reducible refine gate_callee (f := 24) rfl ?_); refine goesL_ (some 67) rfl rfl Tryd.func24 (by kernel_rfl) rfl #[.slice Ao41 t198.length co41, .int .i64 1] rfl (by (try simp only [List.map_toArray, List.map_cons, List.map_nil]); first | done | (rw [show t198.length = t185.length from (Kd.R_reads' HO_7.out).1.symm] <;> rfl) | rfl | (simp only [List.length_drop, List.length_take]; rfl)) ?_; (with_reducible refine (laws_heldInt64S.calls kj25 _ _ t198 1 t199 _ ?side1 ?side2 A39.out).mono ?_); (case side1 => repeat (first | exact (Kd.R_reads' HO_7.out).2.2 | (with_reducible refine Kd.C_alloc ?_ _) | (with_reducible refine Kd.C_drewN ?_ _) | (with_reducible refine Kd.C_drew ?_))); (case side2 => rw [show t198.length = t185.length from (Kd.R_reads' HO_7.out).1.symm]; exact (Kd.R_reads' HO_7.out).2.1); rintro e w' ⟨rfl, ⟨nd, rfl⟩⟩; refine ⟨_, rfl, ?_⟩))
          go_ret; exact ⟨tE, tB⟩
         ·rw [if_neg c40] at H; have c40b0 := decide_eq_false c40; clear c40; by_cases c43 : t199 = t197
          ·rw [if_pos c43] at H; have c43b0 : (t199 == t197) = true := beq_iff_eq.mpr c43; have c43b1 : (t199 != t197) = false := bne_eq_false_iff_eq.mpr c43; clear c43; replace H := Option.bind_eq_some_iff.mp H; obtain ⟨t200, A440, H⟩ := H; replace H : ((impl_ColumnsOf.f kj25 t200).bind fun bt203 => ((laws_eqInt64S.f kj25 bt203.1 t178).bind fun t207 => (if t207 = true then (laws_FnExactColumnsOf.j2 kj25 t198 t197 (bt203.2 != t179)) else (laws_FnExactColumnsOf.j2 kj25 t198 t197 true)))) = some r := H; have A44 := am A440; clear A440; replace H := Option.bind_eq_some_iff.mp H; obtain ⟨⟨t203, t204⟩, A450, H⟩ := H; replace H : ((laws_eqInt64S.f kj25 t203 t178).bind fun t207 => (if t207 = true then (laws_FnExactColumnsOf.j2 kj25 t198 t197 (t204 != t179)) else (laws_FnExactColumnsOf.j2 kj25 t198 t197 true))) = some r := H; have A45 := am A450; clear A450; have HC46 := am H; clear H; obtain ⟨Ao47, co47, eo47⟩ := Kd.R_slice HO_7.out; subst eo47
           go_upto_region 25 with (first | ((with_reducible refine gate_callee (f := 23) rfl ?_); refine goesLA (some 64) Tryd.func23 #[.slice Ao47 t185.length co47, .int .i64 1] rfl rfl rfl (h := ?_); (with_reducible refine (laws_markInt64S.calls kj25 (fun k_ => some k_ = (.slice Ao47 t185.length co47 : Value).ownBlock) (.slice Ao47 t185.length co47) t185 1 t197 t198 w _ ?side1 ?side2 A38.out).mono ?_); (case side1 => repeat (first | (with_reducible first | exact HB.out | apply below_alloc | apply pw_below_drewN | apply below_drew1) | exact HB.out)); (case side2 => exact Kd.R_tight rfl HO_7.out); rintro e w48 ⟨rfl, hy0, hb, hkp⟩; refine ⟨_, rfl, ?_⟩; replace HO_4 := am (Kd.R_mono (ok' := fun k_ => some k_ ≠ (.slice Ao47 t185.length co47 : Value).ownBlock) (Kd.R_keptB (HO_4.out) hkp (fun k_ hk_ hs_ => (hk_) hs_)) (fun k_ hk_ => hk_.1)); replace HO_7 := am (Kd.R_reok rfl hy0 (fun k_ e_ => HO_7.out.1 k_ e_)); replace HB := am (hb); (try clear hb); (try clear hkp); (try clear hy0)) | ((with_reducible refine gate_callee (f := 24) rfl ?_); refine goesL_ (some 67) rfl rfl Tryd.func24 (by kernel_rfl) rfl #[.slice Ao47 t198.length co47, .int .i64 1] rfl (by (try simp only [List.map_toArray, List.map_cons, List.map_nil]); first | done | (rw [show t198.length = t185.length from (Kd.R_reads' HO_7.out).1.symm] <;> rfl) | rfl | (simp only [List.length_drop, List.length_take]; rfl)) ?_; (with_reducible refine (laws_heldInt64S.calls kj25 _ _ t198 1 t199 _ ?side1 ?side2 A39.out).mono ?_); (case side1 => repeat (first | exact (Kd.R_reads' HO_7.out).2.2 | (with_reducible refine Kd.C_alloc ?_ _) | (with_reducible refine Kd.C_drewN ?_ _) | (with_reducible refine Kd.C_drew ?_))); (case side2 => rw [show t198.length = t185.length from (Kd.R_reads' HO_7.out).1.symm]; exact (Kd.R_reads' HO_7.out).2.1); rintro e w' ⟨rfl, ⟨nd, rfl⟩⟩; refine ⟨_, rfl, ?_⟩) | ((with_reducible refine gate_callee (f := 18) rfl ?_); refine goesLA (some 75) Tryd.func18 #[.slice A0 l0.length c0] rfl rfl rfl (h := ?_); (with_reducible refine (laws_toStringS.calls kj25 _ _ l0 t200 _ ?side1 ?side2 A44.out).mono ?_); (case side1 => repeat (first | exact (Kd.C_below HR0.out (tB)) | (with_reducible refine Kd.C_alloc ?_ _) | (with_reducible refine Kd.C_drewN ?_ _) | (with_reducible refine Kd.C_drew ?_))); (case side2 => exact HC0.out); rintro e w49 ⟨v201, rfl, ho0, hb⟩; refine ⟨_, rfl, ?_⟩; replace HO_4 := am (Kd.R_below (tR HO_4.out) hb); replace HO_7 := am (Kd.R_below (tR HO_7.out) hb); have HO202 := am (Kd.R_lower ho0 (below_size (tB))); replace HB := am (below_step (tB) hb); (try clear hb); (try clear hb2); (try clear hk); (try clear hi); (try clear ho0); obtain ⟨Ao50, co50, eo50⟩ := Kd.R_slice HO202.out; subst eo50) | ((with_reducible refine gate_callee (f := 19) rfl ?_); refine goesLA (some 76) Tryd.func19 #[.slice Ao50 t200.length co50] rfl rfl rfl (h := ?_); (with_reducible refine (impl_ColumnsOf.calls kj25 _ _ t200 t203 t204 _ ?side1 ?side2 A45.out).mono ?_); (case side1 => repeat (first | exact (Kd.R_reads' HO202.out).2.2 | (with_reducible refine Kd.C_alloc ?_ _) | (with_reducible refine Kd.C_drewN ?_ _) | (with_reducible refine Kd.C_drew ?_))); (case side2 => exact (Kd.R_reads' HO202.out).2.1); rintro e w51 ⟨v205, rfl, ho0, hb⟩; refine ⟨_, rfl, ?_⟩; replace HO202 := am (Kd.R_below (tR HO202.out) hb); have HO206 := am (Kd.R_lower (Kd.R_new' (Kd.R_new' ho0 (Kd.R_lt (tR HO_4.out))) (Kd.R_lt (tR HO_7.out))) (below_size (tB))); replace HO_4 := am (Kd.R_elder' (tR HO_4.out) (Kd.R_base ho0) hb); replace HO_7 := am (Kd.R_elder' (tR HO_7.out) (Kd.R_base ho0) hb); replace HB := am (below_step (tB) hb); (try clear hb); (try clear hb2); (try clear hk); (try clear hi); (try clear ho0)))
           (try simp only [Act.put, List.setIfInBounds_toArray, List.set_cons_zero, List.set_cons_succ])
           go_cut [87] (fun v87 wc => ∃ (kq : Nat) (x87_45 : Bool), v87 = .bool x87_45 ∧ Aside0 (laws_FnExactColumnsOf.j2 kq t198 t197 x87_45 = some r) ∧ Aside0 (kq ≤ kj25) ∧ Aside0 (Kd.R (Kd.int .i64) 2 wc w.heap.size (fun _ => True) (.slice Ao47 t185.length co47) t198) ∧ Aside0 (Below w.heap.size w wc))
           case first =>
            have H := HC46.out; clear HC46; replace H := Option.bind_eq_some_iff.mp H; obtain ⟨t207, A520, H⟩ := H; replace H : (if t207 = true then (laws_FnExactColumnsOf.j2 kj25 t198 t197 (t204 != t179)) else (laws_FnExactColumnsOf.j2 kj25 t198 t197 true)) = some r := H; have A52 := am A520; clear A520; by_cases c53 : t207 = true
            ·subst c53; (have H1 : (laws_FnExactColumnsOf.j2 kj25 t198 t197 (t204 != t179)) = some r := by rw [if_pos rfl] at H; exact H); clear H; have H := H1; clear H1; have H' := am H; clear H; obtain ⟨Ao54, co54, eo54⟩ := Kd.R_slice HO206.out; subst eo54; obtain ⟨Ao55, co55, eo55⟩ := Kd.R_slice HO_4.out; subst eo55
             go_wp2_with (first | ((with_reducible refine gate_callee (f := 20) rfl ?_); refine goesLA (some 81) Tryd.func20 #[.slice Ao54 t203.length co54, .slice Ao55 t178.length co55] rfl rfl rfl (h := ?_); (with_reducible refine (laws_eqInt64S.calls kj25 _ _ t203 _ _ t178 true _ ?side1 ?side2 ?side3 ?side4 A52.out).mono ?_); (case side1 => repeat (first | exact (Kd.R_reads' HO206.out).2.2 | (with_reducible refine Kd.C_alloc ?_ _) | (with_reducible refine Kd.C_drewN ?_ _) | (with_reducible refine Kd.C_drew ?_))); (case side2 => exact (Kd.R_reads' HO206.out).2.1); (case side3 => repeat (first | exact (Kd.R_reads' HO_4.out).2.2 | (with_reducible refine Kd.C_alloc ?_ _) | (with_reducible refine Kd.C_drewN ?_ _) | (with_reducible refine Kd.C_drew ?_))); (case side4 => exact (Kd.R_reads' HO_4.out).2.1); rintro e w' ⟨rfl, ⟨nd, rfl⟩⟩; refine ⟨_, rfl, ?_⟩))
             go_meet
             case rel => exact ⟨_, ((t204 != t179)), (tF), H', ⟨by have := HJ7.out; have := HJ25.out; first | omega | exact Nat.le_refl _⟩, ⟨by refine tR ?_; exact Kd.R_mono HO_7.out (fun _ hk => trivial)⟩, ⟨tB⟩⟩
            ·replace c53 := Bool.eq_false_iff.mpr c53; subst c53; (have H1 : (laws_FnExactColumnsOf.j2 kj25 t198 t197 true) = some r := by rw [if_neg (show ¬ (false = true) by decide)] at H; exact H); clear H; have H := H1; clear H1; have H' := am H; clear H; obtain ⟨Ao56, co56, eo56⟩ := Kd.R_slice HO206.out; subst eo56; obtain ⟨Ao57, co57, eo57⟩ := Kd.R_slice HO_4.out; subst eo57
             go_wp2_with (first | ((with_reducible refine gate_callee (f := 20) rfl ?_); refine goesLA (some 81) Tryd.func20 #[.slice Ao56 t203.length co56, .slice Ao57 t178.length co57] rfl rfl rfl (h := ?_); (with_reducible refine (laws_eqInt64S.calls kj25 _ _ t203 _ _ t178 false _ ?side1 ?side2 ?side3 ?side4 A52.out).mono ?_); (case side1 => repeat (first | exact (Kd.R_reads' HO206.out).2.2 | (with_reducible refine Kd.C_alloc ?_ _) | (with_reducible refine Kd.C_drewN ?_ _) | (with_reducible refine Kd.C_drew ?_))); (case side2 => exact (Kd.R_reads' HO206.out).2.1); (case side3 => repeat (first | exact (Kd.R_reads' HO_4.out).2.2 | (with_reducible refine Kd.C_alloc ?_ _) | (with_reducible refine Kd.C_drewN ?_ _) | (with_reducible refine Kd.C_drew ?_))); (case side4 => exact (Kd.R_reads' HO_4.out).2.1); rintro e w' ⟨rfl, ⟨nd, rfl⟩⟩; refine ⟨_, rfl, ?_⟩))
             go_meet
             case rel => exact ⟨_, (true), (tF), H', ⟨by have := HJ7.out; have := HJ25.out; first | omega | exact Nat.le_refl _⟩, ⟨by refine tR ?_; exact Kd.R_mono HO_7.out (fun _ hk => trivial)⟩, ⟨tB⟩⟩
           case rest =>
            clear HC46
            try clear c1; try clear c2; try clear p2; try clear c3; try clear c3b0; try clear c4; try clear c5; try clear c16; try clear c17; try clear c18; try clear c19; try clear c20; try clear c21; try clear c22; try clear c23; try clear c24; try clear c30; try clear c30b0; try clear c32; try clear c37; try clear c40; try clear c40b0; try clear c43; try clear c43b0; try clear c43b1; try clear c53; try clear p2
            obtain ⟨kq, x87_45, rfl, HA, HJ45, HO_7, HB⟩ := hcut; have hl7_45 := (Kd.R_reads' HO_7.out).1; rw [hl7_45] at HO_7
            (try simp only [hl7_45])
            cases kq with
            | zero => exact absurd HA.out (by simp [laws_FnExactColumnsOf.j2])
            | succ kj45 =>
             have H := HA.out; clear HA; simp only [laws_FnExactColumnsOf.j2] at H; by_cases c58 : x87_45 = true
             ·subst c58; (have H1 : (some false) = some r := by rw [if_pos rfl] at H; exact H); clear H; have H := H1; clear H1; obtain rfl := Option.some.inj H; go_wp2; go_ret; exact ⟨tE, tB⟩
             ·replace c58 := Bool.eq_false_iff.mpr c58; subst c58; (have H1 : ((laws_heldInt64S.f kj45 t198 1).bind fun t208 => (if t208 < 0 then (some false) else (if t208 = t197 then (some true) else (some false)))) = some r := by rw [if_neg (show ¬ (false = true) by decide)] at H; exact H); clear H; have H := H1; clear H1; replace H := Option.bind_eq_some_iff.mp H; obtain ⟨t208, A590, H⟩ := H; replace H : (if t208 < 0 then (some false) else (if t208 = t197 then (some true) else (some false))) = some r := H; have A59 := am A590; clear A590; by_cases c60 : t208 < 0
              ·rw [if_pos c60] at H; have c60b0 := decide_eq_true c60; clear c60; obtain rfl := Option.some.inj H
               go_wp2_with (first | ((with_reducible refine gate_callee (f := 24) rfl ?_); refine goesLA (some 90) Tryd.func24 #[.slice Ao47 t198.length co47, .int .i64 1] rfl rfl rfl (h := ?_); (with_reducible refine (laws_heldInt64S.calls kj45 _ _ t198 1 t208 _ ?side1 ?side2 A59.out).mono ?_); (case side1 => repeat (first | exact (Kd.R_reads' HO_7.out).2.2 | (with_reducible refine Kd.C_alloc ?_ _) | (with_reducible refine Kd.C_drewN ?_ _) | (with_reducible refine Kd.C_drew ?_))); (case side2 => exact (Kd.R_reads' HO_7.out).2.1); rintro e w' ⟨rfl, ⟨nd, rfl⟩⟩; refine ⟨_, rfl, ?_⟩))
               go_ret; exact ⟨tE, tB⟩
              ·rw [if_neg c60] at H; have c60b0 := decide_eq_false c60; clear c60; by_cases c61 : t208 = t197
               ·rw [if_pos c61] at H; have c61b0 : (t208 == t197) = true := beq_iff_eq.mpr c61; have c61b1 : (t208 != t197) = false := bne_eq_false_iff_eq.mpr c61; clear c61; obtain rfl := Option.some.inj H
                go_wp2_with (first | ((with_reducible refine gate_callee (f := 24) rfl ?_); refine goesLA (some 90) Tryd.func24 #[.slice Ao47 t198.length co47, .int .i64 1] rfl rfl rfl (h := ?_); (with_reducible refine (laws_heldInt64S.calls kj45 _ _ t198 1 t208 _ ?side1 ?side2 A59.out).mono ?_); (case side1 => repeat (first | exact (Kd.R_reads' HO_7.out).2.2 | (with_reducible refine Kd.C_alloc ?_ _) | (with_reducible refine Kd.C_drewN ?_ _) | (with_reducible refine Kd.C_drew ?_))); (case side2 => exact (Kd.R_reads' HO_7.out).2.1); rintro e w' ⟨rfl, ⟨nd, rfl⟩⟩; refine ⟨_, rfl, ?_⟩))
                go_ret; exact ⟨tE, tB⟩
               ·rw [if_neg c61] at H; have c61b0 : (t208 == t197) = false := beq_eq_false_iff_ne.mpr c61; have c61b1 : (t208 != t197) = true := bne_iff_ne.mpr c61; obtain rfl := Option.some.inj H
                go_wp2_with (first | ((with_reducible refine gate_callee (f := 24) rfl ?_); refine goesLA (some 90) Tryd.func24 #[.slice Ao47 t198.length co47, .int .i64 1] rfl rfl rfl (h := ?_); (with_reducible refine (laws_heldInt64S.calls kj45 _ _ t198 1 t208 _ ?side1 ?side2 A59.out).mono ?_); (case side1 => repeat (first | exact (Kd.R_reads' HO_7.out).2.2 | (with_reducible refine Kd.C_alloc ?_ _) | (with_reducible refine Kd.C_drewN ?_ _) | (with_reducible refine Kd.C_drew ?_))); (case side2 => exact (Kd.R_reads' HO_7.out).2.1); rintro e w' ⟨rfl, ⟨nd, rfl⟩⟩; refine ⟨_, rfl, ?_⟩))
                go_ret; exact ⟨tE, tB⟩
          ·rw [if_neg c43] at H; have c43b0 : (t199 == t197) = false := beq_eq_false_iff_ne.mpr c43; have c43b1 : (t199 != t197) = true := bne_iff_ne.mpr c43; obtain rfl := Option.some.inj H; obtain ⟨Ao62, co62, eo62⟩ := Kd.R_slice HO_7.out; subst eo62
           go_wp2_with (first | ((with_reducible refine gate_callee (f := 23) rfl ?_); refine goesLA (some 64) Tryd.func23 #[.slice Ao62 t185.length co62, .int .i64 1] rfl rfl rfl (h := ?_); (with_reducible refine (laws_markInt64S.calls kj25 (fun k_ => some k_ = (.slice Ao62 t185.length co62 : Value).ownBlock) (.slice Ao62 t185.length co62) t185 1 t197 t198 w _ ?side1 ?side2 A38.out).mono ?_); (case side1 => repeat (first | (with_reducible first | exact HB.out | apply below_alloc | apply pw_below_drewN | apply below_drew1) | exact HB.out)); (case side2 => exact Kd.R_tight rfl HO_7.out); rintro e w63 ⟨rfl, hy0, hb, hkp⟩; refine ⟨_, rfl, ?_⟩; replace HO_4 := am (Kd.R_mono (ok' := fun k_ => some k_ ≠ (.slice Ao62 t185.length co62 : Value).ownBlock) (Kd.R_keptB (HO_4.out) hkp (fun k_ hk_ hs_ => (hk_) hs_)) (fun k_ hk_ => hk_.1)); replace HO_7 := am (Kd.R_reok rfl hy0 (fun k_ e_ => HO_7.out.1 k_ e_)); replace HB := am (hb); (try clear hb); (try clear hkp); (try clear hy0)) | ((with_reducible refine gate_callee (f := 24) rfl ?_); refine goesL_ (some 67) rfl rfl Tryd.func24 (by kernel_rfl) rfl #[.slice Ao62 t198.length co62, .int .i64 1] rfl (by (try simp only [List.map_toArray, List.map_cons, List.map_nil]); first | done | (rw [show t198.length = t185.length from (Kd.R_reads' HO_7.out).1.symm] <;> rfl) | rfl | (simp only [List.length_drop, List.length_take]; rfl)) ?_; (with_reducible refine (laws_heldInt64S.calls kj25 _ _ t198 1 t199 _ ?side1 ?side2 A39.out).mono ?_); (case side1 => repeat (first | exact (Kd.R_reads' HO_7.out).2.2 | (with_reducible refine Kd.C_alloc ?_ _) | (with_reducible refine Kd.C_drewN ?_ _) | (with_reducible refine Kd.C_drew ?_))); (case side2 => rw [show t198.length = t185.length from (Kd.R_reads' HO_7.out).1.symm]; exact (Kd.R_reads' HO_7.out).2.1); rintro e w' ⟨rfl, ⟨nd, rfl⟩⟩; refine ⟨_, rfl, ?_⟩))
           go_ret; exact ⟨tE, tB⟩
     ·replace c24 := Bool.eq_false_iff.mpr c24; subst c24; (have H1 : (some false) = some r := by rw [if_neg (show ¬ (false = true) by decide)] at H; exact H); clear H; have H := H1; clear H1; obtain rfl := Option.some.inj H
      go_wp2_with (first | ((with_reducible refine gate_callee (f := 18) rfl ?_); refine goesLA (some 43) Tryd.func18 #[.slice A0 l0.length c0] rfl rfl rfl (h := ?_); (with_reducible refine (laws_toStringS.calls kj7 _ _ l0 t190 _ ?side1 ?side2 A22.out).mono ?_); (case side1 => repeat (first | exact (Kd.C_below HR0.out HB.out) | (with_reducible refine Kd.C_alloc ?_ _) | (with_reducible refine Kd.C_drewN ?_ _) | (with_reducible refine Kd.C_drew ?_))); (case side2 => exact HC0.out); rintro e w64 ⟨v191, rfl, ho0, hb⟩; refine ⟨_, rfl, ?_⟩; replace HO_4 := am (Kd.R_below (tR HO_4.out) hb); replace HO_7 := am (Kd.R_below (tR HO_7.out) hb); have HO192 := am (Kd.R_lower (Kd.R_new' ho0 (Kd.R_lt (tR HO_6.out))) (below_size (tB))); replace HO_6 := am (Kd.R_elder' (tR HO_6.out) (Kd.R_base ho0) hb); replace HB := am (below_step (tB) hb); (try clear hb); (try clear hb2); (try clear hk); (try clear hi); (try clear ho0); obtain ⟨Ao65, co65, eo65⟩ := Kd.R_slice HO192.out; subst eo65) | ((with_reducible refine gate_callee (f := 21) rfl ?_); refine goesLA (some 44) Tryd.func21 #[.slice Ao13 t182.length co13, .slice Ao65 t190.length co65] rfl rfl rfl (h := ?_); (with_reducible refine (laws_eqStringS.calls kj7 _ _ t182 _ _ t190 false _ ?side1 ?side2 ?side3 ?side4 A23.out).mono ?_); (case side1 => repeat (first | exact (Kd.R_reads' HO_6.out).2.2 | (with_reducible refine Kd.C_alloc ?_ _) | (with_reducible refine Kd.C_drewN ?_ _) | (with_reducible refine Kd.C_drew ?_))); (case side2 => exact (Kd.R_reads' HO_6.out).2.1); (case side3 => repeat (first | exact (Kd.R_reads' HO192.out).2.2 | (with_reducible refine Kd.C_alloc ?_ _) | (with_reducible refine Kd.C_drewN ?_ _) | (with_reducible refine Kd.C_drew ?_))); (case side4 => exact (Kd.R_reads' HO192.out).2.1); rintro e w' ⟨rfl, ⟨nd, rfl⟩⟩; refine ⟨_, rfl, ?_⟩))
      go_ret; exact ⟨tE, tB⟩
def cellsOfU : DataW Unit → Array Value
 | .agg l => (l.flatMap fun d => match d with
  | .lit x => [x.value]
  | .agg m => m.map fun e => match e with
   | .lit x => x.value
   | _ => .bool false
  | _ => []).toArray
 | _ => #[]
noncomputable def layAtU (w : World) (g : Nat) (d : DataW Unit) : World := { w with heap := w.heap.modify g fun
 | .cells _ t frozen => .cells (cellsOfU d) t frozen
 | o => o }
noncomputable def laidWorldU (os : Os) : World :=
 layAtU (layAtU (World.holding Tryd.prog os ⟨#[], #[], []⟩) 1 Rows.laid_unicode_utf8_acceptRanges) 0 Rows.laid_unicode_utf8_first
def laidU : List (String × DataW Unit) := [("unicode/utf8.acceptRanges", Rows.laid_unicode_utf8_acceptRanges), ("unicode/utf8.first", Rows.laid_unicode_utf8_first)]
theorem laidWorldU_met (os : Os) (args : Array Value) : laidMet Tryd.prog laidU ((laidWorldU os).forCall (fun _ _ => 0) ⟨#[], args, []⟩).memory :=
 laidMet_of_run (ps := (List.range 32).map (MemPlace.cell 1) ++ (List.range 256).map (MemPlace.cell 0)) 8 (by kernel_rfl) (by kernel_rfl) (by kernel_rfl)
open Go.ChangeShapes Go.WideShapes Go.ChangeAt Go.Deep Go.Joins
theorem C_cells {α : Type} {d : Kd α} {W : World} {a : Addr} {l : List α} (enc : α → Value) (hsz : d.sz = 1) (hK : ∀ p, d.K W p [enc p]) (hl : l.length ≤ 9223372036854775807) (hc : ∀ j p, l[j]? = some p → W.cell? (a.add j) = some (enc p)) : d.C W (some a) l.length l := by
 refine ⟨rfl, hl, fun _ => ⟨a, rfl, fun j p hj => ⟨[enc p], by rw [hsz]; rfl, hK p, fun i u hu => ?_⟩⟩⟩
 have hi : i = 0 := by
  have := (List.getElem?_eq_some_iff.1 hu).1; simp at this; omega
 subst hi; (have hu' : enc p = u := by simpa using hu); subst hu'; rw [hsz, show j * 1 + 0 = j by omega]; exact hc j p hj
theorem open_strs {H : Type} {enc : TypeId × Value → H} {W : World} {base : Nat} {held : Bool} {r : Reach} {b0 : Nat} {v : Value} {d : DataW H} {p : List MemPlace} (hv : Value.okWide Tryd.prog W r b0 23 v) (h : DataW.Trod enc Tryd.prog W base (fun _ => true) held 23 v d p) :
  ∃ (A : Option Addr) (c : Nat) (l : List ByteArray), v = .slice A l.length c ∧ Kd.C Kd.string W A l.length l ∧ l.length ≤ c ∧ l.length ≤ 9223372036854775807 ∧ ∀ s ∈ l, s.size ≤ 9223372036854775807 := by
 obtain ⟨a, len, cap, rfl⟩ := okWide_slice Tryd.underlying23 hv; obtain ⟨m, hm⟩ := h
 rcases open_strings Tryd.underlying23 Tryd.underlying9 (by kernel_rfl) hm with ⟨hcs, _⟩ | ⟨a', len', cap', ss, hcs, _, hl, hmx, hsl, _, hcell, hsz⟩
 ·injection hcs with hcs; exact ⟨none, 0, [], by simpa using hcs, ⟨rfl, by simp, fun h => absurd h (by simp)⟩, by simp, by simp, by simp⟩
 ·injection hcs with hcs; simp only [if_true] at hsl; have hmx' : cap' ≤ 9223372036854775807 := hmx; (have hln : (ss.take len').length = len' := by simp; omega); refine ⟨some a', cap', ss.take len', by rw [hln]; exact hcs, ?_, by omega, by omega, fun s hs => hsz s (List.mem_of_mem_take hs)⟩; refine C_cells (d := Kd.string) Value.string rfl (fun p => rfl) (by omega) (fun j p hj => ?_); have hj1 := (List.getElem?_eq_some_iff.1 hj).1; rw [List.getElem?_take] at hj; rw [if_pos (by omega)] at hj; rw [hcell j (by omega)]; simp [List.getD_eq_getElem?_getD, hj]
def spec_ValidWord.f (k : Nat) (a0 : ByteArray) : Option (Bool) := (spec_l01Word.f k a0).bind fun t101 => (some t101)
def laws_FnExactValidWord.f (k : Nat) (a0 : ByteArray) : Option (Bool) := if (a0.size : Int) > 1048576 then (some true) else ((spec_ValidWord.f k a0).bind fun t104 => ((impl_ValidWord.f a0).bind fun t105 => (if (t105 != t104) = true then (some false) else (some true))))
end Go.Proofs.YtelicdmaohllgaaDoor.X
namespace Go.Proofs.YtelicdmaohllgaaDoor.Pure
set_option maxHeartbeats 16000000
set_option maxRecDepth 100000
open Go.RowKit Go.Proofs.YtelicdmaohllgaaDoor.X Go.Proofs.YtelicdmaohllgaaDoorW.PrintWords Go.Proofs.YtelicdmaohllgaaDoorW.PrintLast
set_option linter.unusedVariables false
set_option linter.unusedSimpArgs false
theorem Ev.succ {α : Type} {g : Nat → Option α} {r : α} (h : Ev (fun k => g (k + 1)) r) : Ev g r := Ev.step (fun _ => rfl) h
theorem Ev.const {α : Type} {o : Option α} {r : α} (h : o = some r) : Ev (fun _ => o) r := ⟨0, fun _ _ => h⟩
theorem w64 {n : Int} (h0 : -9223372036854775808 ≤ n) (h1 : n ≤ 9223372036854775807) : wrap64 n = n := by
 unfold wrap64; omega
theorem rd_nat (xs : List Int) (i : Nat) (h : i < xs.length) : rd xs (i : Int) = xs[i] := by
 simp [rd, List.getD_eq_getElem?_getD, h]
theorem rdOf_nat {α : Type} (d : α) (xs : List α) (i : Nat) (h : i < xs.length) : rdOf d xs (i : Int) = xs[i] := by
 simp [rdOf, List.getD_eq_getElem?_getD, h]
theorem set_take {α : Type} (l ys : List α) (i : Nat) (x : α) (hx : l[i]? = some x) (hl : ys.length = l.length) (h : ys.take i = l.take i) : (ys.set i x).take (i + 1) = l.take (i + 1) := by
 have hi : i < l.length := (List.getElem?_eq_some_iff.1 hx).1; apply List.ext_getElem?; intro j; have hj := congrArg (fun z => z[j]?) h
 simp only [List.getElem?_take] at hj ⊢
 rw [List.getElem?_set]; by_cases h1 : j < i + 1
 ·by_cases h2 : i = j
  ·subst h2; simp only [h1, if_true]; rw [if_pos (by omega)]; exact hx.symm
  ·have h3 : j < i := by omega
   simp only [h1, if_true, h2, if_false, h3] at hj ⊢
   exact hj
 ·simp [h1]
theorem Ev.pos {α : Type} {c : Prop} [Decidable c] {f g : Nat → Option α} {r : α} (h : c) (k : Ev f r) : Ev (fun n => if c then f n else g n) r := by
 obtain ⟨K, k⟩ := k; exact ⟨K, fun n hn => (if_pos h).trans (k n hn)⟩
theorem Ev.neg {α : Type} {c : Prop} [Decidable c] {f g : Nat → Option α} {r : α} (h : ¬ c) (k : Ev g r) : Ev (fun n => if c then f n else g n) r := by
 obtain ⟨K, k⟩ := k; exact ⟨K, fun n hn => (if_neg h).trans (k n hn)⟩
theorem eqInt64S_l (l : List Int) (hn : l.length ≤ 35184372088832) (d : Nat) : ∀ (i : Nat), i + d = l.length → Ev (fun k => laws_eqInt64S.l0 k l l (i : Int)) true := by
 induction d with
 | zero =>
  intro i hi; apply Ev.succ; simp only [laws_eqInt64S.l0]; refine Ev.neg (by omega) ?_; exact Ev.const rfl
 | succ d ih =>
  intro i hi; apply Ev.succ; simp only [laws_eqInt64S.l0]; refine Ev.pos (by omega) ?_; refine Ev.pos (by omega) ?_; refine Ev.pos (by omega) ?_; refine Ev.pos trivial ?_; rw [w64 (by omega) (by omega)]; exact ih (i + 1) (by omega)
theorem eqInt64S_ev (l : List Int) (hn : l.length ≤ 35184372088832) : Ev (fun k => laws_eqInt64S.f k l l) true := by
 unfold laws_eqInt64S.f; refine Ev.pos rfl ?_; exact eqInt64S_l l hn l.length 0 (by omega)
theorem eqStringS_l (l : List ByteArray) (hn : l.length ≤ 35184372088832) (d : Nat) : ∀ (i : Nat), i + d = l.length → Ev (fun k => laws_eqStringS.l0 k l l (i : Int)) true := by
 induction d with
 | zero =>
  intro i hi; apply Ev.succ; simp only [laws_eqStringS.l0]; refine Ev.neg (by omega) ?_; exact Ev.const rfl
 | succ d ih =>
  intro i hi; apply Ev.succ; simp only [laws_eqStringS.l0]; refine Ev.pos (by omega) ?_; refine Ev.pos (by omega) ?_; refine Ev.pos (by omega) ?_; refine Ev.pos trivial ?_; rw [w64 (by omega) (by omega)]; exact ih (i + 1) (by omega)
theorem eqStringS_ev (l : List ByteArray) (hn : l.length ≤ 35184372088832) : Ev (fun k => laws_eqStringS.f k l l) true := by
 unfold laws_eqStringS.f; refine Ev.pos rfl ?_; exact eqStringS_l l hn l.length 0 (by omega)
theorem strOfNums_one (x : Int) : (strOfNums [x]).size = 1 := by
 simp [strOfNums, ByteArray.size]
theorem markText_l (d : Nat) : ∀ (n : Nat) (s : ByteArray), n ≤ d → s.size + d ≤ 9223372036854775806 → ∃ t, Ev (fun k => laws_markText.l0 k (n : Int) s) t := by
 induction d with
 | zero =>
  intro n s hn hs; refine ⟨(⟨#[109]⟩ : ByteArray) ++ s, ?_⟩; apply Ev.succ; simp only [laws_markText.l0]; refine Ev.neg (by omega) ?_; refine Ev.pos (by omega) ?_; exact Ev.const rfl
 | succ d ih =>
  intro n s hn hs; by_cases h0 : n = 0
  ·refine ⟨(⟨#[109]⟩ : ByteArray) ++ s, ?_⟩; apply Ev.succ; simp only [laws_markText.l0]; refine Ev.neg (by omega) ?_; refine Ev.pos (by omega) ?_; exact Ev.const rfl
  ·(have hq : Int.tdiv (n : Int) 10 = ((n / 10 : Nat) : Int) := by rw [Int.tdiv_eq_ediv_of_nonneg (by omega)]; omega); obtain ⟨t, h⟩ := ih (n / 10) ((strOfNums [(wrap64 (48 + (Int.tmod (n : Int) 10))) % 256]) ++ s) (by omega) (by rw [ByteArray.size_append, strOfNums_one]; omega); refine ⟨t, ?_⟩; apply Ev.succ; simp only [laws_markText.l0, Option.bind_some]; refine Ev.pos (by omega) ?_; refine Ev.pos (by rw [strOfNums_one]; omega) ?_; rw [hq, w64 (by omega) (by omega)]; exact h
theorem markText_ev (n : Nat) (hn : n ≤ 1152921504606846976) : ∃ t, Ev (fun k => laws_markText.f k (n : Int)) t := by
 unfold laws_markText.f; by_cases h : n = 0
 ·exact ⟨(⟨#[109, 48]⟩ : ByteArray), Ev.pos (by omega) (Ev.const rfl)⟩
 ·obtain ⟨t, ht⟩ := markText_l n n (⟨#[]⟩ : ByteArray) (Nat.le_refl _) (by have : (⟨#[]⟩ : ByteArray).size = 0 := rfl; omega); exact ⟨t, Ev.neg (by omega) ht⟩
noncomputable def mt (n : Nat) : ByteArray := if h : n ≤ 1152921504606846976 then Classical.choose (markText_ev n h) else ByteArray.empty
theorem mt_ev (n : Nat) (hn : n ≤ 1152921504606846976) : Ev (fun k => laws_markText.f k (n : Int)) (mt n) := by
 unfold mt; rw [dif_pos hn]; exact Classical.choose_spec (markText_ev n hn)
noncomputable def marks (n : Nat) : Nat → List ByteArray
 | 0 => []
 | d + 1 => mt n :: marks (n + 1) d
theorem markStringS_l (d : Nat) : ∀ (i n : Nat) (ys : List ByteArray), i + d = ys.length → n + d ≤ 1152921504606846976 → ys.length ≤ 35184372088832 → Ev (fun k => laws_markStringS.l0 k ys (n : Int) (i : Int)) (((n + d : Nat) : Int), ys.take i ++ marks n d) := by
 induction d with
 | zero =>
  intro i n ys hi hn hl; apply Ev.succ; simp only [laws_markStringS.l0]; refine Ev.neg (by omega) ?_; exact Ev.const (by simp [marks, List.take_of_length_le (show ys.length ≤ i by omega)])
 | succ d ih =>
  intro i n ys hi hn hl; apply Ev.succ; simp only [laws_markStringS.l0]; refine Ev.pos (by omega) ?_; refine Ev.bind (mt_ev n (by omega)) ?_; refine Ev.pos (by omega) ?_; rw [w64 (n := (n : Int) + 1) (by omega) (by omega), w64 (n := (i : Int) + 1) (by omega) (by omega), Int.toNat_natCast]; have h := ih (i + 1) (n + 1) (ys.set i (mt n)) (by simp; omega) (by omega) (by simpa using hl)
  have e : (ys.set i (mt n)).take (i + 1) = ys.take i ++ [mt n] := by
   apply List.ext_getElem?; intro j; rw [List.getElem?_take, List.getElem?_set]; by_cases h1 : j < i
   ·rw [if_pos (by omega), if_neg (by omega), List.getElem?_append_left (by simp; omega), List.getElem?_take, if_pos h1]
   ·by_cases h2 : j = i
    ·subst h2; rw [if_pos (by omega), if_pos rfl, if_pos (by omega), List.getElem?_append_right (by simp; omega)]; simp [show min j ys.length = j by omega]
    ·rw [if_neg (by omega), List.getElem?_eq_none (by simp; omega)]
  rw [e] at h; rw [show n + (d + 1) = n + 1 + d by omega]
  simpa [marks] using h
theorem markStringS_ev (ys : List ByteArray) (n : Nat) (hn : n + ys.length ≤ 1152921504606846976) (hl : ys.length ≤ 35184372088832) : Ev (fun k => laws_markStringS.f k ys (n : Int)) (((n + ys.length : Nat) : Int), marks n ys.length) := by
 have h := markStringS_l ys.length 0 n ys (by omega) hn hl; unfold laws_markStringS.f
 simpa using h
def mI : Nat → Nat → List Int
 | _, 0 => []
 | a, n + 1 => (a : Int) :: mI (a + 1) n
instance decTail : DecidableEq (List Bool × List (List Int) × Int) := inferInstance
instance decRel5 : DecidableEq (Int × Int × List Bool × List (List Int) × Int) := fun a b => @instDecidableEqProd _ _ inferInstance (fun x y => @instDecidableEqProd _ _ inferInstance decTail x y) a b
theorem Ev.guard {α β : Type} {g : Nat → Option α} {a : α} {f : Nat → Option β} {r : β} {D : ∀ k, Decidable (g k = some a)} (hg : Ev g a) (h : Ev f r) : Ev (fun k => if g k = some a then f k else none) r := by
 obtain ⟨K, hg⟩ := hg; obtain ⟨L, h⟩ := h; exact ⟨max K L, fun k hk => (if_pos (hg k (by omega))).trans (h k (by omega))⟩
theorem set_mid {α : Type} (p s : List α) (x v : α) : (p ++ x :: s).set p.length v = (p ++ [v]) ++ s := by simp
theorem getD_mid {α : Type} (d : α) (p s : List α) (x : α) : (p ++ x :: s).getD p.length d = x := by simp [List.getD_eq_getElem?_getD]
theorem markInt_l0 : ∀ (s p : List Int) (a : Nat), a + s.length ≤ 1152921504606846976 → p.length + s.length ≤ 35184372088832 → Ev (fun k => laws_markInt64S.l0 k (p ++ s) (a : Int) (p.length : Int)) (((a + s.length : Nat) : Int), p ++ mI a s.length) := by
 intro s
 induction s with
 | nil =>
  intro p a h1 h2; apply Ev.succ; simp only [laws_markInt64S.l0]; refine Ev.neg (by simp) ?_; exact Ev.const (by simp [mI])
 | cons x s ih =>
  intro p a h1 h2; simp only [List.length_cons] at h1 h2; apply Ev.succ; simp only [laws_markInt64S.l0]; refine Ev.pos (by simp; omega) (Ev.pos (by omega) ?_); rw [w64 (by omega) (by omega), w64 (by omega) (by omega), Int.toNat_natCast, set_mid]; have h := ih (p ++ [(a : Int)]) (a + 1) (by omega) (by simp; omega); (have e1 : (((p ++ [(a : Int)]).length : Nat) : Int) = (p.length : Int) + 1 := by simp); rw [e1] at h; (have e2 : ((a + 1 : Nat) : Int) = (a : Int) + 1 := by omega); rw [e2] at h; (have e3 : (p ++ [(a : Int)]) ++ mI (a + 1) s.length = p ++ mI a (x :: s).length := by simp [mI]); rw [e3, show a + 1 + s.length = a + (x :: s).length by simp; omega] at h; exact h
theorem markInt_ev (l : List Int) (a : Nat) (h1 : a + l.length ≤ 1152921504606846976) (h2 : l.length ≤ 35184372088832) : Ev (fun k => laws_markInt64S.f k l (a : Int)) (((a + l.length : Nat) : Int), mI a l.length) := by
 have h := markInt_l0 l [] a h1 (by simpa using h2)
 simpa [laws_markInt64S.f] using h
theorem heldInt_l0 : ∀ (n a : Nat) (p : List Int), a + n ≤ 1152921504606846976 → p.length + n ≤ 35184372088832 → Ev (fun k => laws_heldInt64S.l0 k (p ++ mI a n) (a : Int) (p.length : Int)) ((a + n : Nat) : Int) := by
 intro n
 induction n with
 | zero =>
  intro a p h1 h2; apply Ev.succ; simp only [laws_heldInt64S.l0, mI, List.append_nil]; exact Ev.neg (by omega) (Ev.const (by simp))
 | succ n ih =>
  intro a p h1 h2; apply Ev.succ; simp only [laws_heldInt64S.l0, mI]; refine Ev.pos (by simp; omega) (Ev.pos (by omega) (Ev.pos ?_ ?_))
  ·unfold rd; rw [Int.toNat_natCast, getD_mid]
  ·rw [w64 (by omega) (by omega), w64 (by omega) (by omega)]; have h := ih (a + 1) (p ++ [(a : Int)]) (by omega) (by simp; omega); (have e1 : (((p ++ [(a : Int)]).length : Nat) : Int) = (p.length : Int) + 1 := by simp); (have e2 : ((a + 1 : Nat) : Int) = (a : Int) + 1 := by omega); rw [e1, e2, List.append_assoc, show a + 1 + n = a + (n + 1) by omega] at h; exact h
theorem heldInt_ev (n a : Nat) (h1 : a + n ≤ 1152921504606846976) (h2 : n ≤ 35184372088832) : Ev (fun k => laws_heldInt64S.f k (mI a n) (a : Int)) ((a + n : Nat) : Int) := by
 have h := heldInt_l0 n a [] h1 (by simpa using h2)
 simpa [laws_heldInt64S.f] using h
theorem toStringS_l (l : List ByteArray) (hn : l.length ≤ 1048576) (d : Nat) : ∀ (i : Nat) (ys : List ByteArray), i + d = l.length → ys.length = l.length → ys.take i = l.take i → Ev (fun k => laws_toStringS.l0 k l ys (i : Int)) l := by
 induction d with
 | zero =>
  intro i ys hi hl h; apply Ev.succ; simp only [laws_toStringS.l0]; refine Ev.neg (by omega) (Ev.const ?_); rw [List.take_of_length_le (by omega), List.take_of_length_le (by omega)] at h; rw [h]
 | succ d ih =>
  intro i ys hi hl h; apply Ev.succ; simp only [laws_toStringS.l0]; refine Ev.pos (by omega) (Ev.pos (by omega) (Ev.pos (by omega) ?_)); rw [rdOf_nat _ l i (by omega), w64 (by omega) (by omega), Int.toNat_natCast]; exact ih (i + 1) _ (by omega) (by simpa using hl) (set_take l ys i _ (List.getElem?_eq_getElem (by omega)) hl h)
theorem toStringS_ev (l : List ByteArray) (hn : l.length ≤ 1048576) : Ev (fun k => laws_toStringS.f k l) l := by
 unfold laws_toStringS.f; refine Ev.pos (by omega) (Ev.pos (by omega) ?_); exact toStringS_l l hn l.length 0 _ (by omega) (by simp) (by simp)
theorem szStringS_l (l : List ByteArray) (hn : l.length ≤ 1048576) (hs : ∀ w ∈ l, w.size ≤ 9223372036854775807) (d : Nat) : ∀ (i a : Nat), i + d = l.length → a ≤ 1048576 → ∃ n : Int, Ev (fun k => laws_szStringS.l0 k l (a : Int) (i : Int)) n ∧ n ≤ 1048576 ∧ (0 ≤ n → ∀ w ∈ l.drop i, w.size ≤ 1048576) := by
 induction d with
 | zero =>
  intro i a hi ha; refine ⟨a, Ev.succ ?_, by omega, fun _ => by rw [List.drop_of_length_le (by omega)]; simp⟩; simp only [laws_szStringS.l0]; exact Ev.neg (by omega) (Ev.now _)
 | succ d ih =>
  intro i a hi ha; have hsi := hs _ (List.getElem_mem (show i < l.length by omega)); by_cases c : l[i].size ≤ a
  ·obtain ⟨n, h1, h2, h3⟩ := ih (i + 1) (a - l[i].size) (by omega) (by omega); refine ⟨n, Ev.succ ?_, h2, fun h0 w hw => ?_⟩
   ·simp only [laws_szStringS.l0]; refine Ev.pos (by omega) (Ev.pos (by omega) ?_); rw [rdOf_nat _ l i (by omega), w64 (n := (a : Int) - _) (by omega) (by omega), w64 (n := (i : Int) + 1) (by omega) (by omega)]; refine Ev.neg (by omega) ?_; rw [show ((a : Int) - (l[i].size : Int)) = ((a - l[i].size : Nat) : Int) by omega]
    exact_mod_cast h1
   ·rw [List.drop_eq_getElem_cons (show i < l.length by omega)] at hw
    rcases List.mem_cons.1 hw with rfl | hw
    ·omega
    ·exact h3 h0 w hw
  ·refine ⟨-1, Ev.succ ?_, by omega, fun h0 => by omega⟩; simp only [laws_szStringS.l0]; refine Ev.pos (by omega) (Ev.pos (by omega) ?_); rw [rdOf_nat _ l i (by omega), w64 (n := (a : Int) - _) (by omega) (by omega)]; exact Ev.pos (by omega) (Ev.now _)
theorem szStringS_ev (l : List ByteArray) (a : Nat) (ha : a ≤ 1048576) (hn : l.length ≤ 9223372036854775807) (hs : ∀ w ∈ l, w.size ≤ 9223372036854775807) : ∃ n : Int, Ev (fun k => laws_szStringS.f k l (a : Int)) n ∧ n ≤ 1048576 ∧ (0 ≤ n → l.length ≤ 1048576 ∧ ∀ w ∈ l, w.size ≤ 1048576) := by
 unfold laws_szStringS.f; by_cases c : l.length ≤ a
 ·obtain ⟨n, h1, h2, h3⟩ := szStringS_l l (by omega) hs l.length 0 (a - l.length) (by omega) (by omega); refine ⟨n, ?_, h2, fun h0 => ⟨by omega, h3 h0⟩⟩; rw [w64 (by omega) (by omega)]; refine Ev.neg (by omega) ?_; rw [show ((a : Int) - (l.length : Int)) = ((a - l.length : Nat) : Int) by omega]; exact h1
 ·refine ⟨-1, ?_, by omega, fun h0 => by omega⟩; rw [w64 (by omega) (by omega)]; exact Ev.pos (by omega) (Ev.now _)
def wordB (s : ByteArray) : Bool := decide (s.size ≤ 40) && s.data.toList.all (fun c => c == 97 || c == 98)
theorem bt_get (s : ByteArray) (i : Nat) (h : i < s.size) : bt s (i : Int) = ((s.data.toList[i]'(by simpa using h)).toNat : Int) := by
 unfold bt; rw [dif_pos (by simpa using h)]; rfl
theorem byte_97 (c : UInt8) : ((c.toNat : Int) = 97) ↔ (c == 97) = true := by
 rw [beq_iff_eq, ← UInt8.toNat_inj]; show _ ↔ c.toNat = 97; omega
theorem byte_98 (c : UInt8) : ((c.toNat : Int) = 98) ↔ (c == 98) = true := by
 rw [beq_iff_eq, ← UInt8.toNat_inj]; show _ ↔ c.toNat = 98; omega
theorem word_l0 (s : ByteArray) (hs : s.size ≤ 1000000000000) (d : Nat) : ∀ i : Nat, i + d = s.size → Ev (fun k => spec_l01Word.l0 k s (i : Int)) (decide (s.size ≤ 40) && (s.data.toList.drop i).all (fun c => c == 97 || c == 98)) := by
 induction d with
 | zero =>
  intro i hi; apply Ev.succ; simp only [spec_l01Word.l0]; refine Ev.neg (by omega) (Ev.const ?_); rw [List.drop_of_length_le (by simp; omega)]; simp; omega
 | succ d ih =>
  intro i hi; apply Ev.succ; simp only [spec_l01Word.l0]; (have hl : i < s.data.toList.length := by simp; omega); refine Ev.pos (by omega) (Ev.pos (by omega) ?_); rw [bt_get s i (by omega), w64 (by omega) (by omega), List.drop_eq_getElem_cons hl, List.all_cons]; generalize hc : s.data.toList[i] = c; by_cases c1 : (c == 97) = true
  ·refine Ev.pos ((byte_97 c).2 c1) ?_; rw [c1]; exact ih (i + 1) (by omega)
  ·refine Ev.neg (fun h => c1 ((byte_97 c).1 h)) ?_; by_cases c2 : (c == 98) = true
   ·refine Ev.pos ((byte_98 c).2 c2) ?_; rw [c2]; simp only [Bool.or_true, Bool.true_and]; exact ih (i + 1) (by omega)
   ·refine Ev.neg (fun h => c2 ((byte_98 c).1 h)) (Ev.const ?_); simp [c1, c2]
theorem word_ev (s : ByteArray) (hs : s.size ≤ 1000000000000) : Ev (fun k => spec_l01Word.f k s) (wordB s) := word_l0 s hs s.size 0 (by omega)
theorem dropWhile_nil {α : Type} (p : α → Bool) : ∀ l : List α, l.dropWhile p = [] ↔ ∀ x ∈ l, p x = true := by
 intro l
 induction l with
 | nil => simp
 | cons a l ih =>
  by_cases c : p a = true
  ·rw [List.dropWhile_cons_of_pos c, ih]; simp [c]
  ·rw [List.dropWhile_cons_of_neg c]; simp [c]
theorem takeWhile_all {α : Type} (p : α → Bool) : ∀ (l : List α) (x : α), x ∈ l.takeWhile p → p x = true := by
 intro l
 induction l with
 | nil => intro x h; simp at h
 | cons a l ih =>
  intro x h; by_cases c : p a = true
  ·rw [List.takeWhile_cons_of_pos c] at h
   rcases List.mem_cons.1 h with rfl | h
   ·exact c
   ·exact ih x h
  ·rw [List.takeWhile_cons_of_neg c] at h; simp at h
theorem all_ab (l : List UInt8) : Lib.trimS l [97, 98] = [] ↔ l.all (fun c => c == 97 || c == 98) = true := by
 (have hp : (fun c : UInt8 => [97, 98].contains c) = (fun c => c == 97 || c == 98) := by funext c; simp; rfl); unfold Lib.trimS Lib.trimLeftS Lib.trimRightS; rw [dropWhile_nil, show (fun x : UInt8 => List.contains [97, 98] x) = (fun c => c == 97 || c == 98) from hp]; constructor
 ·intro h; rw [List.all_eq_true]; intro x hx; by_cases hin : x ∈ (l.reverse.dropWhile (fun c => c == 97 || c == 98)).reverse
  ·have q_ := h x hin; rw [show [97, 98].contains x = (x == 97 || x == 98) from congrFun hp x] at q_; exact q_
  ·have hx' : x ∈ l.reverse := List.mem_reverse.2 hx; rw [← List.takeWhile_append_dropWhile (p := fun c : UInt8 => c == 97 || c == 98) (l := l.reverse)] at hx'
   rcases List.mem_append.1 hx' with h1 | h1
   ·exact takeWhile_all (fun c : UInt8 => c == 97 || c == 98) l.reverse x h1
   ·exact absurd (List.mem_reverse.2 h1) hin
 ·intro h x hx; have hx' := (List.dropWhile_sublist _).mem (List.mem_reverse.1 hx); rw [show [97, 98].contains x = (x == 97 || x == 98) from congrFun hp x]; exact List.all_eq_true.1 h x (List.mem_reverse.1 hx')
theorem validWord_ev (s : ByteArray) (hs : s.size ≤ 1000000000000) : impl_ValidWord.f s = some (wordB s) := by
 unfold impl_ValidWord.f wordB; by_cases c : s.size ≤ 40
 ·rw [if_pos (by omega), decide_eq_true c, Bool.true_and]; unfold strings_Trim.f; rw [if_pos ⟨by omega, by decide, by decide⟩]; simp only [Option.bind_some, Option.some.injEq]; have h := all_ab s.data.toList; show (((⟨(Lib.trimS s.data.toList [97, 98]).toArray⟩ : ByteArray).toList == []) = _); rw [Bool.eq_iff_iff, ← h, beq_iff_eq, Lib.toList_data]
 ·rw [if_neg (by omega), decide_eq_false c, Bool.false_and]
theorem words_l0 (ws : List ByteArray) (hl : ws.length ≤ 1000000000000) (hs : ∀ s ∈ ws, s.size ≤ 1000000000000) (d : Nat) : ∀ i : Nat, i + d = ws.length → Ev (fun k => spec_l01Words.l0 k ws (i : Int)) ((ws.drop i).all wordB) := by
 induction d with
 | zero =>
  intro i hi; apply Ev.succ; simp only [spec_l01Words.l0]; refine Ev.neg (by omega) (Ev.const ?_); rw [List.drop_of_length_le (by omega)]; rfl
 | succ d ih =>
  intro i hi; apply Ev.succ; simp only [spec_l01Words.l0]; refine Ev.pos (by omega) (Ev.pos (by omega) ?_); rw [rdOf_nat _ ws i (by omega), w64 (by omega) (by omega), List.drop_eq_getElem_cons (show i < ws.length by omega), List.all_cons]; refine Ev.bind (word_ev _ (hs _ (List.getElem_mem (by omega)))) ?_
  cases e : wordB ws[i] with
  | true => exact Ev.pos rfl (ih (i + 1) (by omega))
  | false => exact Ev.neg (by simp) (Ev.now _)
theorem words_ev (ws : List ByteArray) (hl : ws.length ≤ 1000000000000) (hs : ∀ s ∈ ws, s.size ≤ 1000000000000) : Ev (fun k => spec_l01Words.f k ws) (ws.all wordB) := words_l0 ws hl hs ws.length 0 (by omega)
theorem areWords_l0 (ws : List ByteArray) (hl : ws.length ≤ 1000000000000) (hs : ∀ s ∈ ws, s.size ≤ 1000000000000) (d : Nat) : ∀ i : Nat, i + d = ws.length → Ev (fun k => impl_areWords.l0 k ws (ws.length : Int) (i : Int)) ((ws.drop i).all wordB) := by
 induction d with
 | zero =>
  intro i hi; apply Ev.succ; simp only [impl_areWords.l0]; refine Ev.neg (by omega) (Ev.const ?_); rw [List.drop_of_length_le (by omega)]; rfl
 | succ d ih =>
  intro i hi; apply Ev.succ; simp only [impl_areWords.l0]; refine Ev.pos (by omega) (Ev.pos (by omega) (Ev.pos (by omega) ?_)); rw [rdOf_nat _ ws i (by omega), w64 (by omega) (by omega), List.drop_eq_getElem_cons (show i < ws.length by omega), List.all_cons, validWord_ev _ (hs _ (List.getElem_mem (by omega)))]; simp only [Option.bind_some]
  cases e : wordB ws[i] with
  | true => exact Ev.pos rfl (ih (i + 1) (by omega))
  | false => exact Ev.neg (by simp) (Ev.now _)
theorem areWords_ev (ws : List ByteArray) (hl : ws.length ≤ 1000000000000) (hs : ∀ s ∈ ws, s.size ≤ 1000000000000) : Ev (fun k => impl_areWords.f k ws) (ws.all wordB) := areWords_l0 ws hl hs ws.length 0 (by omega)
/-- What a word has in column i. -/
def dgt (w : ByteArray) (i : Nat) : Int := if i < w.size then bt w (i : Int) - 97 else 2
def colL : List Int → Int
 | [] => 0
 | d :: ds => d + 3 * colL ds
def colAt (ws : List ByteArray) (i : Nat) : Int := colL (ws.map fun w => dgt w i)
def longest : List ByteArray → Nat
 | [] => 0
 | w :: ws => max w.size (longest ws)
def colsL (ws : List ByteArray) : List Int := (List.range (longest ws)).map (colAt ws)
theorem longest_le {ws : List ByteArray} {N : Nat} (h : ∀ w ∈ ws, w.size ≤ N) : longest ws ≤ N := by
 induction ws with
 | nil => simp [longest]
 | cons w ws ih =>
  have h1 := h w (by simp); have h2 := ih (fun x hx => h x (List.mem_cons_of_mem _ hx)); simp only [longest]; omega
theorem longest_any (ws : List ByteArray) (i : Nat) : (i < longest ws) ↔ ∃ w ∈ ws, i < w.size := by
 induction ws with
 | nil => simp [longest]
 | cons w ws ih =>
  simp only [longest, List.mem_cons, exists_eq_or_imp, ← ih]; omega
theorem wordB_get {w : ByteArray} (h : wordB w = true) : w.size ≤ 40 ∧ ∀ i : Nat, i < w.size → bt w (i : Int) = 97 ∨ bt w (i : Int) = 98 := by
 simp only [wordB, Bool.and_eq_true, decide_eq_true_eq, List.all_eq_true, Bool.or_eq_true] at h; refine ⟨h.1, fun i hi => ?_⟩; rw [bt_get w i hi]
 rcases h.2 _ (List.getElem_mem (show i < w.data.toList.length by simpa using hi)) with c | c
 ·exact .inl ((byte_97 _).2 c)
 ·exact .inr ((byte_98 _).2 c)
theorem dgt_range {w : ByteArray} (h : wordB w = true) (i : Nat) : 0 ≤ dgt w i ∧ dgt w i ≤ 2 ∧ (i < w.size → dgt w i ≤ 1) := by
 unfold dgt; obtain ⟨_, hb⟩ := wordB_get h
 split
 ·next hi => rcases hb i hi with e | e <;> rw [e] <;> omega
 ·exact ⟨by omega, by omega, fun h => by omega⟩
theorem colL_range : ∀ ds : List Int, (∀ d ∈ ds, 0 ≤ d ∧ d ≤ 2) → 0 ≤ colL ds ∧ colL ds ≤ 3 ^ ds.length - 1 := by
 intro ds
 induction ds with
 | nil => intro _; simp [colL]
 | cons d ds ih =>
  intro h; have h1 := h d (by simp); have h2 := ih (fun x hx => h x (List.mem_cons_of_mem _ hx)); simp only [colL, List.length_cons, Int.pow_succ]; omega
theorem digits_ok {ws : List ByteArray} (h : ∀ w ∈ ws, wordB w = true) (i : Nat) : ∀ d ∈ ws.map (fun w => dgt w i), 0 ≤ d ∧ d ≤ 2 := by
 intro d hd; obtain ⟨w, hw, rfl⟩ := List.mem_map.1 hd; exact ⟨(dgt_range (h w hw) i).1, (dgt_range (h w hw) i).2.1⟩
theorem pow_fin : ∀ n : Fin 4, spec_l01Power.f 10 (n.val : Int) = some (3 ^ n.val) := by decide +kernel
theorem pow_ev (n : Nat) (h : n ≤ 3) : Ev (fun k => spec_l01Power.f k (n : Int)) (3 ^ n) := Ev.of (fun k => spec_l01Power.mono _ k) (pow_fin ⟨n, by omega⟩)
theorem pow3_le {n : Nat} (h : n ≤ 3) : (1 : Int) ≤ 3 ^ n ∧ (3 : Int) ^ n ≤ 27 := by
 have : n = 0 ∨ n = 1 ∨ n = 2 ∨ n = 3 := by omega
 rcases this with rfl | rfl | rfl | rfl <;> decide
/-- One column, as the reference reckons it. -/
theorem specCol (ws : List ByteArray) (hl : ws.length ≤ 3) (hw : ∀ w ∈ ws, wordB w = true) (out : List Int) (i : Nat) (ho : out.length ≤ 1000) (hi40 : i ≤ 100) {r : List Int}
  (hmore : i < longest ws → Ev (fun k => spec_l01Columns.l0 k ws (out ++ [colAt ws i]) ((i : Int) + 1)) r) (hend : ¬ i < longest ws → out = r) (d : Nat) :
  ∀ (t : Nat) (x : Int) (b : Bool), t + d = ws.length → 0 ≤ x → x + 3 ^ t * colL ((ws.drop t).map fun w => dgt w i) = colAt ws i → x ≤ 27 → (b = true ∨ ∃ w ∈ ws.drop t, i < w.size) = (i < longest ws) → Ev (fun k => spec_l01Columns.l1 k ws out (i : Int) x b (t : Int)) r := by
 induction d with
 | zero =>
  intro t x b ht hx0 hx hx27 hb; apply Ev.succ; simp only [spec_l01Columns.l1]; refine Ev.neg (by omega) ?_; rw [List.drop_of_length_le (by omega)] at hx hb; simp only [List.map_nil, colL, Int.mul_zero, Int.add_zero] at hx; simp only [List.not_mem_nil, false_and, exists_false, or_false] at hb; by_cases c : b = true
  ·refine Ev.pos c (Ev.pos (by omega) ?_); rw [w64 (by omega) (by omega), hx]; exact hmore (hb ▸ c)
  ·refine Ev.neg c (Ev.const ?_); rw [hend (fun h => c (hb.symm ▸ h))]
 | succ d ih =>
  intro t x b ht hx0 hx hx27 hb; (have hlt : t < ws.length := by omega); have hwt := hw _ (List.getElem_mem hlt); have hdr := dgt_range hwt i; rw [List.drop_eq_getElem_cons hlt] at hx hb; simp only [List.map_cons, colL] at hx; simp only [List.mem_cons, exists_eq_or_imp] at hb; have hp := pow3_le (show t ≤ 3 by omega)
  have hc := colL_range ((ws.drop (t + 1)).map fun w => dgt w i) (fun e he => by
   obtain ⟨w, hw', rfl⟩ := List.mem_map.1 he; have := dgt_range (hw w (List.mem_of_mem_drop hw')) i
   exact ⟨this.1, this.2.1⟩)
  have hr27 : colAt ws i ≤ 26 := by
   have h1 := (colL_range _ (digits_ok hw i)).2; have h2 := (pow3_le hl).2; simp only [List.length_map] at h1; unfold colAt; omega
  have hmul : 0 ≤ 3 ^ t * dgt ws[t] i := Int.mul_nonneg (by omega) hdr.1; have hmul2 : 0 ≤ 3 ^ t * (3 * colL ((ws.drop (t + 1)).map fun w => dgt w i)) := Int.mul_nonneg (by omega) (by omega); rw [Int.mul_add] at hx
  have hnext : Ev (fun k => spec_l01Columns.l1 k ws out (i : Int) (x + dgt ws[t] i * 3 ^ t) (b || decide (i < ws[t].size)) ((t : Int) + 1)) r := by
   have h := ih (t + 1) (x + dgt ws[t] i * 3 ^ t) (b || decide (i < ws[t].size)) (by omega) (by rw [Int.mul_comm]; omega) (by rw [Int.pow_succ, Int.mul_assoc, Int.mul_comm (dgt ws[t] i)]; omega) (by rw [Int.mul_comm]; omega) (by rw [← hb]; simp [or_assoc])
   exact_mod_cast h
  apply Ev.succ; simp only [spec_l01Columns.l1]; refine Ev.pos (by omega) (Ev.pos (by omega) ?_); rw [rdOf_nat _ ws t hlt]; (have hwr : (x + dgt ws[t] i * 3 ^ t) ≤ 26 ∧ 0 ≤ dgt ws[t] i * 3 ^ t := by rw [Int.mul_comm]; omega); by_cases c : i < ws[t].size
  ·refine Ev.pos (by omega) (Ev.pos (by omega) (Ev.bind (pow_ev t (by omega)) ?_)); have hd : dgt ws[t] i = bt ws[t] (i : Int) - 97 := if_pos c; rw [show (bt ws[t] (i : Int) - 97) % 256 = dgt ws[t] i by rw [hd]; rw [hd] at hdr; omega]; rw [w64 (n := dgt ws[t] i * 3 ^ t) (by omega) (by omega), w64 (n := x + _) (by omega) (by omega), w64 (n := (t : Int) + 1) (by omega) (by omega)]; rw [decide_eq_true c, Bool.or_true] at hnext; exact hnext
  ·refine Ev.neg (by omega) (Ev.bind (pow_ev t (by omega)) ?_); have hd : dgt ws[t] i = 2 := if_neg c; rw [hd] at hwr hnext; rw [w64 (n := 2 * 3 ^ t) (by omega) (by omega), w64 (n := x + _) (by omega) (by omega), w64 (n := (t : Int) + 1) (by omega) (by omega)]; rw [decide_eq_false c, Bool.or_false] at hnext; exact hnext
theorem range_snoc {ws : List ByteArray} (i : Nat) : (List.range i).map (colAt ws) ++ [colAt ws i] = (List.range (i + 1)).map (colAt ws) := by
 rw [List.range_succ, List.map_append]; rfl
theorem specCols_l0 (ws : List ByteArray) (hl : ws.length ≤ 3) (hw : ∀ w ∈ ws, wordB w = true) (d : Nat) : ∀ i : Nat, i + d = longest ws → Ev (fun k => spec_l01Columns.l0 k ws ((List.range i).map (colAt ws)) (i : Int)) (colsL ws) := by
 have hlo := longest_le (N := 40) (fun w h => (wordB_get (hw w h)).1)
 induction d with
 | zero =>
  intro i hi; apply Ev.succ; simp only [spec_l01Columns.l0]; refine specCol ws hl hw _ i (by simp; omega) (by omega) (fun h => by omega) (fun _ => by rw [show i = longest ws by omega]; rfl) ws.length 0 0 false (by omega) (by omega) (by simp [colAt]) (by omega) ?_; simp [longest_any]
 | succ d ih =>
  intro i hi; apply Ev.succ; simp only [spec_l01Columns.l0]; refine specCol ws hl hw _ i (by simp; omega) (by omega) (fun h => ?_) (fun h => by omega) ws.length 0 0 false (by omega) (by omega) (by simp [colAt]) (by omega) ?_
  ·rw [range_snoc]; have := ih (i + 1) (by omega)
   exact_mod_cast this
  ·simp [longest_any]
theorem specCols_ev (ws : List ByteArray) (hl : ws.length ≤ 3) (hw : ∀ w ∈ ws, wordB w = true) : Ev (fun k => spec_l01Columns.f k ws) (colsL ws) := specCols_l0 ws hl hw (longest ws) 0 (by omega)
theorem columnOf_l0 (ds : List Int) (hl : ds.length ≤ 3) (hd : ∀ d ∈ ds, 0 ≤ d ∧ d ≤ 2) : ∀ j : Nat, j ≤ ds.length → Ev (fun k => impl_columnOf.l0 k ds (colL (ds.drop j)) ((j : Int) - 1)) (colL ds) := by
 intro j
 induction j with
 | zero =>
  intro _; apply Ev.succ; simp only [impl_columnOf.l0]; exact Ev.neg (by omega) (Ev.const (by rw [List.drop_zero]))
 | succ j ih =>
  intro hj; have h1 := colL_range (ds.drop (j + 1)) (fun d h => hd d (List.mem_of_mem_drop h)); have h2 := (pow3_le (show (ds.drop (j + 1)).length ≤ 3 by simp; omega)).2; have h3 := hd _ (List.getElem_mem (show j < ds.length by omega)); apply Ev.succ; simp only [impl_columnOf.l0]; refine Ev.pos (by omega) (Ev.pos (by omega) (Ev.pos (by omega) ?_)); rw [show (((j + 1 : Nat) : Int) - 1) = (j : Int) by omega, rd_nat _ _ (by omega), w64 (n := 3 * _) (by omega) (by omega), w64 (n := 3 * _ + _) (by omega) (by omega), w64 (n := (j : Int) - 1) (by omega) (by omega)]; have h := ih (by omega); rw [List.drop_eq_getElem_cons (show j < ds.length by omega)] at h; simp only [colL] at h; rw [Int.add_comm]; exact h
theorem columnOf_ev (ds : List Int) (hl : ds.length ≤ 3) (hd : ∀ d ∈ ds, 0 ≤ d ∧ d ≤ 2) : Ev (fun k => impl_columnOf.f k ds) (colL ds) := by
 unfold impl_columnOf.f; rw [w64 (by omega) (by omega)]; have h := columnOf_l0 ds hl hd ds.length (Nat.le_refl _); rw [List.drop_of_length_le (Nat.le_refl _)] at h; exact h
theorem implCol (ws : List ByteArray) (hl : ws.length ≤ 3) (hw : ∀ w ∈ ws, wordB w = true) (m : Int) (out : List Int) (ho : out.length ≤ 1000) (i : Nat) (hi : i ≤ 100) {r : List Int} (hm : Ev (fun k => impl_columnsOf.l1 k ws m (out ++ [colAt ws i]) ((i : Int) + 1)) r) (d : Nat) :
  ∀ t : Nat, t + d = ws.length → Ev (fun k => impl_columnsOf.l2 k ws m out (i : Int) ((ws.take t).map fun w => dgt w i) ws (ws.length : Int) (t : Int)) r := by
 induction d with
 | zero =>
  intro t ht; apply Ev.succ; simp only [impl_columnsOf.l2]; refine Ev.neg (by omega) ?_; rw [List.take_of_length_le (by omega)]; refine Ev.bind (columnOf_ev _ (by simpa using hl) (digits_ok hw i)) (Ev.pos (by omega) ?_); rw [w64 (by omega) (by omega)]; exact hm
 | succ d ih =>
  intro t ht; (have hlt : t < ws.length := by omega); have hwt := hw _ (List.getElem_mem hlt); have hdr := dgt_range hwt i; have hnext := ih (t + 1) (by omega); rw [← List.take_append_getElem hlt, List.map_append] at hnext; apply Ev.succ; simp only [impl_columnsOf.l2]; refine Ev.pos (by omega) (Ev.pos (by omega) (Ev.pos (by omega) ?_)); rw [rdOf_nat _ ws t hlt, w64 (n := (t : Int) + 1) (by omega) (by omega)]; by_cases c : i < ws[t].size
  ·refine Ev.pos (by omega) (Ev.pos (by omega) (Ev.pos (by simp; omega) ?_)); have hd : dgt ws[t] i = bt ws[t] (i : Int) - 97 := if_pos c; rw [show (bt ws[t] (i : Int) - 97) % 256 = dgt ws[t] i by rw [hd]; rw [hd] at hdr; omega]; exact hnext
  ·refine Ev.neg (by omega) (Ev.pos (by simp; omega) ?_); have hd : dgt ws[t] i = 2 := if_neg c; rw [← hd]; exact hnext
theorem implCols_l1 (ws : List ByteArray) (hl : ws.length ≤ 3) (hw : ∀ w ∈ ws, wordB w = true) (d : Nat) : ∀ i : Nat, i + d = longest ws → Ev (fun k => impl_columnsOf.l1 k ws (longest ws : Int) ((List.range i).map (colAt ws)) (i : Int)) (colsL ws) := by
 have hlo := longest_le (N := 40) (fun w h => (wordB_get (hw w h)).1)
 induction d with
 | zero =>
  intro i hi; apply Ev.succ; simp only [impl_columnsOf.l1]; refine Ev.neg (by omega) (Ev.const ?_); rw [show i = longest ws by omega]; rfl
 | succ d ih =>
  intro i hi; apply Ev.succ; simp only [impl_columnsOf.l1]; refine Ev.pos (by omega) ?_; refine implCol ws hl hw _ _ (by simp; omega) i (by omega) ?_ ws.length 0 (by omega); rw [range_snoc]; have := ih (i + 1) (by omega)
  exact_mod_cast this
theorem longest_snoc (ws : List ByteArray) (w : ByteArray) : longest (ws ++ [w]) = max (longest ws) w.size := by
 induction ws with
 | nil => simp [longest]
 | cons x ws ih => simp only [List.cons_append, longest, ih]; omega
theorem implCols_l0 (ws : List ByteArray) (hl : ws.length ≤ 3) (hw : ∀ w ∈ ws, wordB w = true) (d : Nat) : ∀ t : Nat, t + d = ws.length → Ev (fun k => impl_columnsOf.l0 k ws (longest (ws.take t) : Int) ws (ws.length : Int) (t : Int)) (colsL ws) := by
 induction d with
 | zero =>
  intro t ht; apply Ev.succ; simp only [impl_columnsOf.l0]; refine Ev.neg (by omega) ?_; rw [List.take_of_length_le (by omega)]; exact implCols_l1 ws hl hw (longest ws) 0 (by omega)
 | succ d ih =>
  intro t ht; (have hlt : t < ws.length := by omega); have hnext := ih (t + 1) (by omega); rw [← List.take_append_getElem hlt, longest_snoc] at hnext; apply Ev.succ; simp only [impl_columnsOf.l0]; refine Ev.pos (by omega) (Ev.pos (by omega) (Ev.pos (by omega) ?_)); rw [rdOf_nat _ ws t hlt, w64 (n := (t : Int) + 1) (by omega) (by omega)]; rw [show mx (longest (ws.take t) : Int) (ws[t].size : Int) = ((max (longest (ws.take t)) ws[t].size : Nat) : Int) by unfold mx; split <;> omega]; exact hnext
theorem implCols_ev (ws : List ByteArray) (hl : ws.length ≤ 3) (hw : ∀ w ∈ ws, wordB w = true) : Ev (fun k => impl_columnsOf.f k ws) (colsL ws) := implCols_l0 ws hl hw ws.length 0 (by omega)
theorem asLongs_l0 (l : List Int) (hl : l.length ≤ 1048576) (d : Nat) : ∀ i : Nat, i + d = l.length → Ev (fun k => impl_asLongs.l0 k (l.take i) l (l.length : Int) (i : Int)) l := by
 induction d with
 | zero =>
  intro i hi; apply Ev.succ; simp only [impl_asLongs.l0]; refine Ev.neg (by omega) (Ev.const ?_); rw [List.take_of_length_le (by omega)]
 | succ d ih =>
  intro i hi; apply Ev.succ; simp only [impl_asLongs.l0]; refine Ev.pos (by omega) (Ev.pos (by omega) (Ev.pos (by omega) (Ev.pos (by simp; omega) ?_))); rw [w64 (by omega) (by omega), rd_nat _ _ (by omega), List.take_append_getElem (by omega)]; exact ih (i + 1) (by omega)
theorem asLongs_ev (l : List Int) (hl : l.length ≤ 1048576) : Ev (fun k => impl_asLongs.f k l) l := asLongs_l0 l hl l.length 0 (by omega)
theorem FnExactValidWord (s : ByteArray) (h : s.size ≤ 9223372036854775807) : ∃ k, laws_FnExactValidWord.f k s = some true := by
 apply Ev.rounds; unfold laws_FnExactValidWord.f; by_cases hl : (s.size : Int) > 1048576
 ·exact Ev.pos hl (Ev.now _)
 ·refine Ev.neg hl (Ev.bind (a := wordB s) ?_ ?_)
  ·unfold spec_ValidWord.f; exact Ev.bind (word_ev s (by omega)) (Ev.now _)
  ·refine Ev.bind (Ev.const (validWord_ev s (by omega))) ?_; exact Ev.neg (by simp) (Ev.now _)
theorem columns_both (ws : List ByteArray) (hl : ws.length ≤ 1048576) (hs : ∀ w ∈ ws, w.size ≤ 1048576) : ∃ r : List Int × Int, r.1.length ≤ 40 ∧ Ev (fun k => spec_ColumnsOf.f k ws) r ∧ Ev (fun k => impl_ColumnsOf.f k ws) r := by
 have w1 := words_ev ws (by omega) (fun s h => by have := hs s h; omega); have w2 := areWords_ev ws (by omega) (fun s h => by have := hs s h; omega)
 have i1 : Ev (fun _ : Nat => spec_l00In.f (ws.length : Int) 1 3) (decide (1 ≤ ws.length ∧ ws.length ≤ 3)) := by
  refine Ev.const ?_; unfold spec_l00In.f; by_cases c : (ws.length : Int) ≥ 1
  ·rw [if_pos c]; exact congrArg some (decide_eq_decide.2 (by omega))
  ·rw [if_neg c]; exact congrArg some (decide_eq_false (by omega)).symm
 have i2 : Ev (fun _ : Nat => impl_areTapes.f (ws.length : Int)) (decide (1 ≤ ws.length ∧ ws.length ≤ 3)) := by
  refine Ev.const ?_; unfold impl_areTapes.f impl_within.f; by_cases c : (ws.length : Int) ≥ 1
  ·simp only [c, if_true, Option.bind_some]; exact congrArg some (decide_eq_decide.2 (by omega))
  ·simp only [c, if_false, Option.bind_some]; exact congrArg some (decide_eq_false (by omega)).symm
 by_cases hw : ws.all wordB = true
 ·by_cases hn : 1 ≤ ws.length ∧ ws.length ≤ 3
  ·have hall : ∀ w ∈ ws, wordB w = true := List.all_eq_true.1 hw; have h40 : longest ws ≤ 40 := longest_le (fun w h => (wordB_get (hall w h)).1); (have hcl : (colsL ws).length ≤ 40 := by simp [colsL]; exact h40); refine ⟨(colsL ws, 0), hcl, ?_, ?_⟩
   ·unfold spec_ColumnsOf.f; exact Ev.bind w1 (Ev.pos hw (Ev.bind i1 (Ev.pos (decide_eq_true hn) (Ev.bind (specCols_ev ws hn.2 hall) (Ev.now _)))))
   ·unfold impl_ColumnsOf.f; exact Ev.bind w2 (Ev.pos hw (Ev.bind i2 (Ev.pos (decide_eq_true hn) (Ev.bind (implCols_ev ws hn.2 hall) (Ev.bind (asLongs_ev _ (by omega)) (Ev.now _))))))
  ·refine ⟨([], 2), by simp, ?_, ?_⟩
   ·unfold spec_ColumnsOf.f; exact Ev.bind w1 (Ev.pos hw (Ev.bind i1 (Ev.neg (by simpa using hn) (Ev.now _))))
   ·unfold impl_ColumnsOf.f; exact Ev.bind w2 (Ev.pos hw (Ev.bind i2 (Ev.neg (by simpa using hn) (Ev.now _))))
 ·refine ⟨([], 1), by simp, ?_, ?_⟩
  ·unfold spec_ColumnsOf.f; exact Ev.bind w1 (Ev.neg hw (Ev.now _))
  ·unfold impl_ColumnsOf.f; exact Ev.bind w2 (Ev.neg hw (Ev.now _))
theorem FnExactColumnsOf (ws : List ByteArray) (hwl : ws.length ≤ 9223372036854775807) (hws : ∀ w ∈ ws, w.size ≤ 9223372036854775807) : ∃ k, laws_FnExactColumnsOf.f k ws = some true := by
 apply Ev.rounds; unfold laws_FnExactColumnsOf.f; obtain ⟨n, e1, e2, e3⟩ := szStringS_ev ws 1048576 (by omega) hwl hws; refine Ev.bind e1 ?_; by_cases hn : n < 0
 ·exact Ev.pos hn (Ev.now _)
 ·obtain ⟨g1, g2⟩ := e3 (by omega); obtain ⟨⟨r, c⟩, hr, hS, hI⟩ := columns_both ws g1 g2; simp only at hr; have eI := eqInt64S_ev r (by omega); have eT := toStringS_ev ws g1; have eH := heldInt_ev r.length 1 (by omega) (by omega); refine Ev.neg hn (Ev.bind eT (Ev.bind hS (Ev.bind eT (Ev.bind hI (Ev.bind eI (Ev.pos rfl ?_)))))); apply Ev.succ; simp only [laws_FnExactColumnsOf.j0]; refine Ev.neg (by simp) (Ev.bind eT (Ev.bind (eqStringS_ev ws (by omega)) (Ev.pos rfl (Ev.bind (markStringS_ev ws 1 (by omega) (by omega)) (Ev.neg (by show ¬ ((1 + ws.length : Nat) : Int) < 0; omega) (Ev.bind eI (Ev.pos rfl ?_))))))); apply Ev.succ; simp only [laws_FnExactColumnsOf.j1]; refine Ev.neg (by simp) (Ev.bind (markInt_ev r 1 (by omega) (by omega)) (Ev.bind eH (Ev.neg (by omega) (Ev.pos rfl (Ev.bind eT (Ev.bind hI (Ev.bind eI (Ev.pos rfl ?_)))))))); apply Ev.succ; simp only [laws_FnExactColumnsOf.j2]; exact Ev.neg (by simp) (Ev.bind eH (Ev.neg (by omega) (Ev.pos rfl (Ev.now _))))
end Go.Proofs.YtelicdmaohllgaaDoor.Pure
