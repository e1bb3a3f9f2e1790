import Derived.Test.YtocfcpicleomcaaDoorFU2
namespace Go.Proofs.YtocfcpicleomcaaDoor.X
set_option maxHeartbeats 16000000
set_option maxRecDepth 100000
open Go.RowKit Go.Proofs.YtocfcpicleomcaaDoorW.PrintWords Go.Proofs.YtocfcpicleomcaaDoorW.PrintLast Go.Proofs.YtocfcpicleomcaaDoorW.PrintMore
attribute [local go_sem] kc0 ka0 zg1 zf1 jh0 jg0 kb0 jz0
set_option linter.unusedVariables false
set_option linter.unusedSimpArgs false
mutual
def ze0.l0 : Nat → List Int → List Bool → Int → Int → Int → Int → List Bool → List (List Int) → Option (List Int)
 | 0, _, _, _, _, _, _, _, _ => none
 | k + 1, x3, x16, x17, x18, x970000, x970001, x970002, x970003 => if x18 < x17 then (if 0 ≤ x18 then (if x18 < (x16.length : Int) then (if rdOf false x16 x18 = true then (ze0.l0 k x3 x16 x17 (wrap64 (x18 + 1)) x970000 x970001 x970002 x970003) else (if x18 < (x3.length : Int) then (ze0.l0 k (x3.set (x18 : Int).toNat (-1)) x16 x17 (wrap64 (x18 + 1)) x970000 x970001 x970002 x970003) else (none))) else (none)) else (none)) else (ze0.l1 k x3 1 x970000 x970001 x970002 x970003)
def ze0.l1 : Nat → List Int → Int → Int → Int → List Bool → List (List Int) → Option (List Int)
 | 0, _, _, _, _, _, _ => none
 | k + 1, x3, x6, x970000, x970001, x970002, x970003 => if x6 ≤ (x3.length : Int) then (ze0.l2 k x3 x6 x970003 (x970003.length : Int) 0 x970000 x970001 x970002 x970003) else (some x3)
def ze0.l2 : Nat → List Int → Int → List (List Int) → Int → Int → Int → Int → List Bool → List (List Int) → Option (List Int)
 | 0, _, _, _, _, _, _, _, _, _ => none
 | k + 1, x3, x6, x36, x37, x38, x970000, x970001, x970002, x970003 => if x38 < x37 then (if 0 ≤ x38 then (if x38 < (x36.length : Int) then (if x38 < (x3.length : Int) then (if (rd x3 x38) ≥ 0 then (ze0.l2 k x3 x6 x36 x37 (wrap64 (x38 + 1)) x970000 x970001 x970002 x970003) else (ze0.l3 k x3 x6 x38 x36 x37 x38 (rd_L6 x36 x38) ((rd_L6 x36 x38).length : Int) 0 x970000 x970001 x970002 x970003)) else (none)) else (none)) else (none)) else (ze0.l1 k x3 (wrap64 (x6 + 1)) x970000 x970001 x970002 x970003)
def ze0.l3 : Nat → List Int → Int → Int → List (List Int) → Int → Int → List Int → Int → Int → Int → Int → List Bool → List (List Int) → Option (List Int)
 | 0, _, _, _, _, _, _, _, _, _, _, _, _, _ => none
 | k + 1, x3, x6, x7, x36, x37, x38, x48, x49, x50, x970000, x970001, x970002, x970003 => if x50 < x49 then (if 0 ≤ x50 then (if x50 < (x48.length : Int) then (if 0 ≤ (rd x48 x50) then (if (rd x48 x50) < (x3.length : Int) then (if (rd x3 (rd x48 x50)) = (wrap64 (x6 - 1)) then (if 0 ≤ x7 then (if x7 < (x3.length : Int) then (ze0.l2 k (x3.set (x7 : Int).toNat x6) x6 x36 x37 (wrap64 (x38 + 1)) x970000 x970001 x970002 x970003) else (none)) else (none)) else (ze0.l3 k x3 x6 x7 x36 x37 x38 x48 x49 (wrap64 (x50 + 1)) x970000 x970001 x970002 x970003)) else (none)) else (none)) else (none)) else (none)) else (ze0.l2 k x3 x6 x36 x37 (wrap64 (x38 + 1)) x970000 x970001 x970002 x970003)
end
def ze0.f (k : Nat) (a0_0 : Int) (a0_1 : Int) (l0_2 : List Bool) (l0_3 : List (List Int)) : Option (List Int) := if 0 ≤ (l0_2.length : Int) then (if ((l0_2.length : Int) : Int).toNat ≤ 35184372088832 then (ze0.l0 k (List.replicate ((l0_2.length : Int) : Int).toNat 0) l0_2 (l0_2.length : Int) 0 a0_0 a0_1 l0_2 l0_3) else (none)) else (none)
theorem ze0.mono_l : ∀ k, (∀ y0 y1 y2 y3 y4 y5 y6 y7, LeO (ze0.l0 k y0 y1 y2 y3 y4 y5 y6 y7) (ze0.l0 (k + 1) y0 y1 y2 y3 y4 y5 y6 y7)) ∧ (∀ y0 y1 y2 y3 y4 y5, LeO (ze0.l1 k y0 y1 y2 y3 y4 y5) (ze0.l1 (k + 1) y0 y1 y2 y3 y4 y5)) ∧ (∀ y0 y1 y2 y3 y4 y5 y6 y7 y8, LeO (ze0.l2 k y0 y1 y2 y3 y4 y5 y6 y7 y8) (ze0.l2 (k + 1) y0 y1 y2 y3 y4 y5 y6 y7 y8)) ∧ (∀ y0 y1 y2 y3 y4 y5 y6 y7 y8 y9 y10 y11 y12, LeO (ze0.l3 k y0 y1 y2 y3 y4 y5 y6 y7 y8 y9 y10 y11 y12) (ze0.l3 (k + 1) y0 y1 y2 y3 y4 y5 y6 y7 y8 y9 y10 y11 y12))
 | 0 => ⟨fun _ _ _ _ _ _ _ _ r h => by simp [ze0.l0] at h, fun _ _ _ _ _ _ r h => by simp [ze0.l1] at h, fun _ _ _ _ _ _ _ _ _ r h => by simp [ze0.l2] at h, fun _ _ _ _ _ _ _ _ _ _ _ _ _ r h => by simp [ze0.l3] at h⟩
 | k + 1 => by
  obtain ⟨ih0, ih1, ih2, ih3⟩ := ze0.mono_l k; refine ⟨?_, ?_, ?_, ?_⟩
  ·intro y0 y1 y2 y3 y4 y5 y6 y7; unfold ze0.l0
   repeat' first
   | (with_reducible exact ih0 _ _ _ _ _ _ _ _)
   | (with_reducible exact ih1 _ _ _ _ _ _)
   | (with_reducible exact ih2 _ _ _ _ _ _ _ _ _)
   | (with_reducible exact ih3 _ _ _ _ _ _ _ _ _ _ _ _ _)
   | (with_reducible exact LeO.refl _)
   | (with_reducible exact LeO.none _)
   | (with_reducible refine LeO.ite ?_ ?_)
   | (with_reducible refine LeO.bind ?_ (fun _ => ?_))
   | exact ih0 _ _ _ _ _ _ _ _
   | exact ih1 _ _ _ _ _ _
   | exact ih2 _ _ _ _ _ _ _ _ _
   | exact ih3 _ _ _ _ _ _ _ _ _ _ _ _ _
   | exact LeO.none _
   | refine LeO.ite ?_ ?_
   | refine LeO.bind ?_ (fun _ => ?_)
  ·intro y0 y1 y2 y3 y4 y5; unfold ze0.l1
   repeat' first
   | (with_reducible exact ih0 _ _ _ _ _ _ _ _)
   | (with_reducible exact ih1 _ _ _ _ _ _)
   | (with_reducible exact ih2 _ _ _ _ _ _ _ _ _)
   | (with_reducible exact ih3 _ _ _ _ _ _ _ _ _ _ _ _ _)
   | (with_reducible exact LeO.refl _)
   | (with_reducible exact LeO.none _)
   | (with_reducible refine LeO.ite ?_ ?_)
   | (with_reducible refine LeO.bind ?_ (fun _ => ?_))
   | exact ih0 _ _ _ _ _ _ _ _
   | exact ih1 _ _ _ _ _ _
   | exact ih2 _ _ _ _ _ _ _ _ _
   | exact ih3 _ _ _ _ _ _ _ _ _ _ _ _ _
   | exact LeO.none _
   | refine LeO.ite ?_ ?_
   | refine LeO.bind ?_ (fun _ => ?_)
  ·intro y0 y1 y2 y3 y4 y5 y6 y7 y8; unfold ze0.l2
   repeat' first
   | (with_reducible exact ih0 _ _ _ _ _ _ _ _)
   | (with_reducible exact ih1 _ _ _ _ _ _)
   | (with_reducible exact ih2 _ _ _ _ _ _ _ _ _)
   | (with_reducible exact ih3 _ _ _ _ _ _ _ _ _ _ _ _ _)
   | (with_reducible exact LeO.refl _)
   | (with_reducible exact LeO.none _)
   | (with_reducible refine LeO.ite ?_ ?_)
   | (with_reducible refine LeO.bind ?_ (fun _ => ?_))
   | exact ih0 _ _ _ _ _ _ _ _
   | exact ih1 _ _ _ _ _ _
   | exact ih2 _ _ _ _ _ _ _ _ _
   | exact ih3 _ _ _ _ _ _ _ _ _ _ _ _ _
   | exact LeO.none _
   | refine LeO.ite ?_ ?_
   | refine LeO.bind ?_ (fun _ => ?_)
  ·intro y0 y1 y2 y3 y4 y5 y6 y7 y8 y9 y10 y11 y12; unfold ze0.l3
   repeat' first
   | (with_reducible exact ih0 _ _ _ _ _ _ _ _)
   | (with_reducible exact ih1 _ _ _ _ _ _)
   | (with_reducible exact ih2 _ _ _ _ _ _ _ _ _)
   | (with_reducible exact ih3 _ _ _ _ _ _ _ _ _ _ _ _ _)
   | (with_reducible exact LeO.refl _)
   | (with_reducible exact LeO.none _)
   | (with_reducible refine LeO.ite ?_ ?_)
   | (with_reducible refine LeO.bind ?_ (fun _ => ?_))
   | exact ih0 _ _ _ _ _ _ _ _
   | exact ih1 _ _ _ _ _ _
   | exact ih2 _ _ _ _ _ _ _ _ _
   | exact ih3 _ _ _ _ _ _ _ _ _ _ _ _ _
   | exact LeO.none _
   | refine LeO.ite ?_ ?_
   | refine LeO.bind ?_ (fun _ => ?_)
theorem ze0.mono : ∀ a0 a1 a2 a3 k, LeO (ze0.f k a0 a1 a2 a3) (ze0.f (k + 1) a0 a1 a2 a3) := by
 intro a0 a1 a2 a3 k; obtain ⟨ih0, ih1, ih2, ih3⟩ := ze0.mono_l k; unfold ze0.f
 repeat' first
   | (with_reducible exact ih0 _ _ _ _ _ _ _ _)
   | (with_reducible exact ih1 _ _ _ _ _ _)
   | (with_reducible exact ih2 _ _ _ _ _ _ _ _ _)
   | (with_reducible exact ih3 _ _ _ _ _ _ _ _ _ _ _ _ _)
   | (with_reducible exact LeO.refl _)
   | (with_reducible exact LeO.none _)
   | (with_reducible refine LeO.ite ?_ ?_)
   | (with_reducible refine LeO.bind ?_ (fun _ => ?_))
   | exact ih0 _ _ _ _ _ _ _ _
   | exact ih1 _ _ _ _ _ _
   | exact ih2 _ _ _ _ _ _ _ _ _
   | exact ih3 _ _ _ _ _ _ _ _ _ _ _ _ _
   | exact LeO.none _
   | refine LeO.ite ?_ ?_
   | refine LeO.bind ?_ (fun _ => ?_)
theorem ze0.calls (k : Nat) (a0_0 : Int) (a0_1 : Int) (A0_2 : Option Addr) (c0_2 : Nat) (l0_2 : List Bool) (A0_3 : Option Addr) (c0_3 : Nat) (l0_3 : List (List Int)) (r : List Int) (w : World) (hr0_2 : Kd.C Kd.bool w A0_2 l0_2.length l0_2) (hc0_2 : l0_2.length ≤ c0_2) (hr0_3 : Kd.C (Kd.slice 3 (Kd.int .i64)) w A0_3 l0_3.length l0_3) (hc0_3 : l0_3.length ≤ c0_3) (h : ze0.f k a0_0 a0_1 l0_2 l0_3 = some r) :
  Calls Tryd.prog 134 #[.agg #[.int .i64 a0_0, .int .i64 a0_1, .slice A0_2 l0_2.length c0_2, .slice A0_3 l0_3.length c0_3]] w fun e w' => ∃ v0_ : Value, e = .returned (v0_) ∧ Kd.R (Kd.int .i64) 3 w' w.heap.size (fun _ => True) v0_ r ∧ Below w.heap.size w w' := by
 have hu64 := Tryd.underlying64; have HR0_2 := am hr0_2; have HC0_2 := am hc0_2; clear hr0_2 hc0_2; have HR0_3 := am hr0_3; have HC0_3 := am hc0_3; clear hr0_3 hc0_3; have HB := am (Below.refl w.heap.size w); have H : (if 0 ≤ (l0_2.length : Int) then (if ((l0_2.length : Int) : Int).toNat ≤ 35184372088832 then (ze0.l0 k (List.replicate ((l0_2.length : Int) : Int).toNat 0) l0_2 (l0_2.length : Int) 0 a0_0 a0_1 l0_2 l0_3) else (none)) else (none)) = some r := h; clear h; by_cases c2 : 0 ≤ (l0_2.length : Int)
 ·rw [if_pos c2] at H; have c2b0 := eq_true c2; have c2b1 := decide_eq_true c2; clear c2; by_cases c3 : ((l0_2.length : Int) : Int).toNat ≤ 35184372088832
  ·rw [if_pos c3] at H; have c3b0 := eq_true c3; have c3b1 := decide_eq_true c3; clear c3; obtain ⟨y970, hy970⟩ : ∃ y_ : List Int, y_ = (List.replicate ((l0_2.length : Int) : Int).toNat 0) := ⟨_, rfl⟩; replace H : (ze0.l0 k y970 l0_2 (l0_2.length : Int) 0 a0_0 a0_1 l0_2 l0_3) = some r := tY hy970 H; have Ny970 := am hy970; clear hy970; have H' := am H; clear H; go_enter Tryd.func134, Tryd.ntmps134
   go_wp2_with (first | ((with_reducible refine yi0 (N := 1) rfl ?_); refine boxA 1 #[.int .i64 a0_0, .int .i64 a0_1, .slice A0_2 l0_2.length c0_2, .slice A0_3 l0_3.length c0_3] 64 rfl rfl (h := ?_); intro gb969 hg w4 hbox hb; have BK969 := am (hbox); have GW969 := am ((by rw [hg]; exact (zm0 (tB)) : w.heap.size ≤ gb969)); have GE969 := am ((by rw [hg]; exact (zm0 (tB)) : w.heap.size ≤ gb969)); replace HB := am (zr0 (tB) hb); clear hb hbox hg; obtain ⟨hcz5_0, hcz5_1, hcz5_2, hcz5_3⟩ := bc4 BK969.out; have hfz5_0 := zb0 BK969.out 0; have hfz5_1 := zb0 BK969.out 1; have hfz5_2 := zb0 BK969.out 2; have hfz5_3 := zb0 BK969.out 3) | ((with_reducible refine yi0 (N := 14) rfl ?_); refine Kd.zi1 (Kd.int .i64) _ 3 rfl (N := 14) rfl 81 _ _ rfl (l0_2.length : Int) rfl rfl Tryd.underlying81 (.int .i64 0) 8 info3 rfl (by decide) (by omega) 0 (ok := fun _ => True) (okp := fun _ => True) rfl (fun _ hk => hk) trivial (oA) (Nat.le_trans (Nat.mul_le_mul_right _ (oA : (l0_2.length : Int).toNat ≤ 35184372088832)) (by omega)) (Below.refl _ _) (Nat.le_refl _) ?_; intro v971 w6 ho7 hb hg_ hnew_; clear hg_ hnew_; (first | rw [← Ny970.out] at ho7 | (simp only [Int.reduceToNat] at ho7; rw [← Ny970.out] at ho7)); have HO972 := am (Kd.yx0 ho7 (zm0 (tB))); replace BK969 := am (bkb BK969.out hb); replace HB := am (zr0 (tB) hb); clear hb ho7; obtain ⟨hcz8_0, hcz8_1, hcz8_2, hcz8_3⟩ := bc4 BK969.out; have hfz8_0 := zb0 BK969.out 0; have hfz8_1 := zb0 BK969.out 1; have hfz8_2 := zb0 BK969.out 2; have hfz8_3 := zb0 BK969.out 3))
   go_loopg [18] k (fun kq v18 w' => ∃ (x3_1 : List Int) (x18_1 : Int), v18 = .int .i64 x18_1 ∧ zd0 (ze0.l0 kq x3_1 l0_2 (l0_2.length : Int) x18_1 a0_0 a0_1 l0_2 l0_3 = some r) ∧ zd0 (kq ≤ k) ∧ zd0 (Kd.R (Kd.int .i64) 3 w' w.heap.size (fun _ => True) v971 x3_1) ∧ zd0 (w'.heap[gb969]? = some (.cells #[.int .i64 a0_0, .int .i64 a0_1, (.slice A0_2 l0_2.length c0_2), (.slice A0_3 l0_3.length c0_3)] 64 (0, 0))) ∧ zd0 (Below w.heap.size w w'))
   case atStart => exact ⟨(y970), (0), (tF), H', ⟨Nat.le_refl _⟩, ⟨by refine tR ?_; exact HO972.out⟩, ⟨by refine tBk ?_; exact BK969.out⟩, ⟨tB⟩⟩
   case round =>
    clear H'
    try clear c1; try clear c2; try clear c2b0; try clear c2b1; try clear p2; try clear c3; try clear c3b0; try clear c3b1; try clear hcz5_0; try clear hcz5_1; try clear hcz5_2; try clear hcz5_3; try clear hcz8_0; try clear hcz8_1; try clear hcz8_2; try clear hcz8_3; try clear hfz5_0; try clear hfz5_1; try clear hfz5_2; try clear hfz5_3; try clear hfz8_0; try clear hfz8_1; try clear hfz8_2; try clear hfz8_3
    obtain ⟨x3_1, x18_1, rfl, HA, HK1, HO_3, BK969, HB⟩ := hrel
    cases gk with
    | zero => exact absurd HA.out (by simp [ze0.l0])
    | succ k1 =>
     have H := HA.out; clear HA; simp only [ze0.l0] at H; by_cases c9 : x18_1 < (l0_2.length : Int)
     ·rw [if_pos c9] at H; have c9b0 := decide_eq_true c9; clear c9; by_cases c10 : 0 ≤ x18_1
      ·rw [if_pos c10] at H; have c10b0 := decide_eq_true c10; clear c10; by_cases c11 : x18_1 < (l0_2.length : Int)
       ·rw [if_pos c11] at H; have c11b0 := decide_eq_true c11; clear c11; obtain ⟨bq12, hbq12⟩ : ∃ b_ : Bool, b_ = (rdOf false l0_2 x18_1) := ⟨_, rfl⟩; (replace H : (if bq12 = true then (ze0.l0 k1 x3_1 l0_2 (l0_2.length : Int) (wrap64 (x18_1 + 1)) a0_0 a0_1 l0_2 l0_3) else (if x18_1 < (x3_1.length : Int) then (ze0.l0 k1 (x3_1.set (x18_1 : Int).toNat (-1)) l0_2 (l0_2.length : Int) (wrap64 (x18_1 + 1)) a0_0 a0_1 l0_2 l0_3) else (none))) = some r := by rw [← hbq12] at H; exact H); have Nbq12 := am hbq12; clear hbq12; by_cases c13 : bq12 = true
        ·subst c13; (have H1 : (ze0.l0 k1 x3_1 l0_2 (l0_2.length : Int) (wrap64 (x18_1 + 1)) a0_0 a0_1 l0_2 l0_3) = some r := by rw [if_pos rfl] at H; exact H); clear H; have H := H1; clear H1; have H' := am H; clear H; have p973 : 0 ≤ (x18_1 : Int) := oA; have q973 : x18_1 < (l0_2.length : Int) := oA; obtain ⟨ad973, e973, hx973_0⟩ := Kd.ql0 HR0_2.out x18_1 p973 q973
         (try rw [← Nbq12.out] at hx973_0)
         cases e973; replace hx973_0 := (HB.out.cell (World.block_lt_of_cell? w _ hx973_0)).trans hx973_0; replace p973 := eq_true p973; replace q973 := eq_true q973; go_wp2; go_roundg k1
         case measure => have := HK1.out; omega
         case rel => exact ⟨(x3_1), (wrap64 (x18_1 + 1)), (tF), H', ⟨by have := HK1.out; omega⟩, ⟨by refine tR ?_; exact HO_3.out⟩, ⟨by refine tBk ?_; exact BK969.out⟩, ⟨tB⟩⟩
        ·replace c13 := Bool.eq_false_iff.mpr c13; subst c13; (have H1 : (if x18_1 < (x3_1.length : Int) then (ze0.l0 k1 (x3_1.set (x18_1 : Int).toNat (-1)) l0_2 (l0_2.length : Int) (wrap64 (x18_1 + 1)) a0_0 a0_1 l0_2 l0_3) else (none)) = some r := by rw [if_neg (show ¬ (false = true) by decide)] at H; exact H); clear H; have H := H1; clear H1; by_cases c14 : x18_1 < (x3_1.length : Int)
         ·rw [if_pos c14] at H; have c14b0 := decide_eq_true c14; clear c14; obtain ⟨y974, hy974⟩ : ∃ y_ : List Int, y_ = (x3_1.set (x18_1 : Int).toNat (-1)) := ⟨_, rfl⟩; replace H : (ze0.l0 k1 y974 l0_2 (l0_2.length : Int) (wrap64 (x18_1 + 1)) a0_0 a0_1 l0_2 l0_3) = some r := tY hy974 H; have Ny974 := am hy974; clear hy974; have H' := am H; clear H; have p973 : 0 ≤ (x18_1 : Int) := oA; have q973 : x18_1 < (l0_2.length : Int) := oA; obtain ⟨ad973, e973, hx973_0⟩ := Kd.ql0 HR0_2.out x18_1 p973 q973
          (try rw [← Nbq12.out] at hx973_0)
          cases e973; replace hx973_0 := (HB.out.cell (World.block_lt_of_cell? w _ hx973_0)).trans hx973_0; replace p973 := eq_true p973; replace q973 := eq_true q973; have p15 : 0 ≤ (x18_1 : Int) := oA; have q15 : (x18_1 : Int) < ((x3_1.length : Int) : Int) := oA; obtain ⟨go15, co15, eo15, gb15, gl15, cl15, HG15⟩ := Kd.jl0 HO_3.out (by omega)
          (first | cases eo15 | (injection eo15 with ea_ en_ ec_; (first | subst ea_ | (injection ea_ with ea_; subst ea_)); subst ec_; clear en_))
          have GB15 := am gb15; have GG15 := am HG15; clear gb15 gl15 HG15; obtain ⟨hx15_0, hf15_0⟩ := Kd.qx0 0 HO_3.out (x18_1 : Int) p15 q15; replace p15 := eq_true p15; replace q15 := eq_true q15; have HP16 := Kd.zu1 HO_3.out (x18_1 : Int) (-1)
          go_wp2_with (first | ((with_reducible refine xo0 (t := 3) (p := 27) rfl ?_); refine xh0 (t := 3) (p := 27) (v := ?vo_w17) (w1 := (wr.setCell ⟨go15, (x18_1 : Int).toNat, none⟩ (.int .i64 (-1)))) ?hg ?ho ?hn ?hr ?_; (case ho => rfl); (case hg => rfl); (case hn => rfl); (case hr => first | (go_simp; done) | (go_simp; rfl)); intro w17 hw; have hg : wr.grownBy w17 (some go15) := (by rw [hw]; exact HP16.2); have hp_ : Kd.R (Kd.int .i64) 3 w17 w.heap.size (fun _ => True) (.slice (some ⟨go15, 0, none⟩) x3_1.length co15) y974 := (by rw [hw, Ny974.out]; exact HP16.1); clear HP16; replace BK969 := am (xx0 (g := gb969) (o := .cells #[.int .i64 a0_0, .int .i64 a0_1, .slice (some ad973) l0_2.length c0_2, .slice A0_3 l0_3.length c0_3] 64 (0, 0)) (tBk BK969.out) hg (Kd.R_ne HO_3.out BK969.out (by decide))); replace HO_3 := am (hp_); replace HB := am ((by rw [hw]; exact xi0 (HB.out) GB15.out : Below w.heap.size w w17)); clear hg hw hp_))
          go_roundg k1
          case measure => have := HK1.out; omega
          case rel => exact ⟨(y974), (wrap64 (x18_1 + 1)), (tF), H', ⟨by have := HK1.out; omega⟩, ⟨by refine tR ?_; exact HO_3.out⟩, ⟨by refine tBk ?_; exact BK969.out⟩, ⟨tB⟩⟩
         ·rw [if_neg c14] at H; exact absurd H (by simp)
       ·rw [if_neg c11] at H; exact absurd H (by simp)
      ·rw [if_neg c10] at H; exact absurd H (by simp)
     ·rw [if_neg c9] at H; have c9b0 := decide_eq_false c9; clear c9; have H' := am H; clear H; go_wp2
      go_loopg [6] k1 (fun kq v6 w' => ∃ (x3_2 : List Int) (x6_2 : Int), v6 = .int .i64 x6_2 ∧ zd0 (ze0.l1 kq x3_2 x6_2 a0_0 a0_1 l0_2 l0_3 = some r) ∧ zd0 (kq ≤ k1) ∧ zd0 (Kd.R (Kd.int .i64) 3 w' w.heap.size (fun _ => True) v971 x3_2) ∧ zd0 (w'.heap[gb969]? = some (.cells #[.int .i64 a0_0, .int .i64 a0_1, (.slice A0_2 l0_2.length c0_2), (.slice A0_3 l0_3.length c0_3)] 64 (0, 0))) ∧ zd0 (Below w.heap.size w w'))
      case atStart => exact ⟨(x3_1), (1), (tF), H', ⟨Nat.le_refl _⟩, ⟨by refine tR ?_; exact HO_3.out⟩, ⟨by refine tBk ?_; exact BK969.out⟩, ⟨tB⟩⟩
      case round =>
       clear H'
       try clear c1; try clear p1; try clear q1; try clear hx1; try clear hf1; try clear c2; try clear c2b0; try clear c2b1; try clear p2; try clear c3; try clear c3b0; try clear c3b1; try clear p6; try clear c9; try clear c9b0; try clear p9; try clear q9; try clear hx9; try clear c10; try clear c10b0; try clear c11; try clear c11b0; try clear q12; try clear c13; try clear c14; try clear c14b0; try clear p15; try clear q15; try clear hx15; try clear hf15; try clear hcz5_0; try clear hcz5_1; try clear hcz5_2; try clear hcz5_3; try clear hcz8_0; try clear hcz8_1; try clear hcz8_2; try clear hcz8_3; try clear hfz5_0; try clear hfz5_1; try clear hfz5_2; try clear hfz5_3; try clear hfz8_0; try clear hfz8_1; try clear hfz8_2; try clear hfz8_3; try clear hx15_0; try clear hx973_0; try clear p15; try clear p2; try clear p973; try clear q15; try clear q973
       obtain ⟨x3_2, x6_2, rfl, HA, HK2, HO_3, BK969, HB⟩ := hrel
       cases gk with
       | zero => exact absurd HA.out (by simp [ze0.l1])
       | succ k2 =>
        have H := HA.out; clear HA; simp only [ze0.l1] at H; by_cases c18 : x6_2 ≤ (x3_2.length : Int)
        ·rw [if_pos c18] at H; have c18b0 := decide_eq_true c18; clear c18; have H' := am H; clear H; obtain ⟨Ao19, co19, eo19⟩ := Kd.zq0 HO_3.out; subst eo19; obtain ⟨hcz20_0, hcz20_1, hcz20_2, hcz20_3⟩ := bc4 BK969.out; obtain ⟨hfz20_0, hfz20_1, hfz20_2, hfz20_3⟩ := bf4 BK969.out; go_wp2
         go_loopg [38] k2 (fun kq v38 w' => ∃ (x3_3 : List Int) (x38_3 : Int), v38 = .int .i64 x38_3 ∧ zd0 (ze0.l2 kq x3_3 x6_2 l0_3 (l0_3.length : Int) x38_3 a0_0 a0_1 l0_2 l0_3 = some r) ∧ zd0 (kq ≤ k2) ∧ zd0 (Kd.R (Kd.int .i64) 3 w' w.heap.size (fun _ => True) (.slice Ao19 x3_2.length co19) x3_3) ∧ zd0 (w'.heap[gb969]? = some (.cells #[.int .i64 a0_0, .int .i64 a0_1, (.slice A0_2 l0_2.length c0_2), (.slice A0_3 l0_3.length c0_3)] 64 (0, 0))) ∧ zd0 (Below w.heap.size w w'))
         case atStart => exact ⟨(x3_2), (0), (tF), H', ⟨Nat.le_refl _⟩, ⟨by refine tR ?_; exact HO_3.out⟩, ⟨by refine tBk ?_; exact BK969.out⟩, ⟨tB⟩⟩
         case round =>
          clear H'
          try clear c1; try clear p1; try clear q1; try clear hx1; try clear hf1; try clear c2; try clear c2b0; try clear c2b1; try clear p2; try clear c3; try clear c3b0; try clear c3b1; try clear p6; try clear c9; try clear c9b0; try clear p9; try clear q9; try clear hx9; try clear c10; try clear c10b0; try clear c11; try clear c11b0; try clear q12; try clear c13; try clear c14; try clear c14b0; try clear p15; try clear q15; try clear hx15; try clear hf15; try clear c18; try clear c18b0; try clear hcz20_0; try clear hcz20_1; try clear hcz20_2; try clear hcz20_3; try clear hcz5_0; try clear hcz5_1; try clear hcz5_2; try clear hcz5_3; try clear hcz8_0; try clear hcz8_1; try clear hcz8_2; try clear hcz8_3; try clear hfz20_0; try clear hfz20_1; try clear hfz20_2; try clear hfz20_3; try clear hfz5_0; try clear hfz5_1; try clear hfz5_2; try clear hfz5_3; try clear hfz8_0; try clear hfz8_1; try clear hfz8_2; try clear hfz8_3; try clear hx15_0; try clear hx973_0; try clear p1; try clear p15; try clear p2; try clear p6; try clear p9; try clear p973; try clear q1; try clear q12; try clear q15; try clear q9; try clear q973
          obtain ⟨x3_3, x38_3, rfl, HA, HK3, HO_3, BK969, HB⟩ := hrel; have hl3_3 := (Kd.zt0 HO_3.out).1; rw [hl3_3] at HO_3
          (try simp only [hl3_3])
          (try simp only [hl3_3] at BK969)
          cases gk with
          | zero => exact absurd HA.out (by simp [ze0.l2])
          | succ k3 =>
           have H := HA.out; clear HA; simp only [ze0.l2] at H; by_cases c21 : x38_3 < (l0_3.length : Int)
           ·rw [if_pos c21] at H; have c21b0 := decide_eq_true c21; clear c21; by_cases c22 : 0 ≤ x38_3
            ·rw [if_pos c22] at H; have c22b0 := decide_eq_true c22; clear c22; by_cases c23 : x38_3 < (l0_3.length : Int)
             ·rw [if_pos c23] at H; have c23b0 := decide_eq_true c23; clear c23; by_cases c24 : x38_3 < (x3_3.length : Int)
              ·rw [if_pos c24] at H; have c24b0 := decide_eq_true c24; clear c24; by_cases c25 : (rd x3_3 x38_3) ≥ 0
               ·rw [if_pos c25] at H; have c25b0 : decide (0 ≤ (rd x3_3 x38_3)) = true := decide_eq_true c25; clear c25; have H' := am H; clear H; have p975 : 0 ≤ (x38_3 : Int) := oA; have q975 : x38_3 < (l0_3.length : Int) := oA; obtain ⟨ad975, A975_0, c975_0, e975, hx975_0, hl975_0, hi975_0⟩ := ze4 HR0_3.out x38_3 p975 q975; cases e975; replace hx975_0 := (HB.out.cell (World.block_lt_of_cell? w _ hx975_0)).trans hx975_0; have HR975_0 := am hi975_0; have HC975_0 := am hl975_0; clear hi975_0 hl975_0; replace p975 := eq_true p975; replace q975 := eq_true q975; have p976 : 0 ≤ (x38_3 : Int) := oA; have q976 : x38_3 < (x3_3.length : Int) := oA; obtain ⟨ad976, e976, hx976_0⟩ := Kd.yk0 (Kd.zt0 HO_3.out).2.2 x38_3 p976 q976; cases e976; replace p976 := eq_true p976; replace q976 := eq_true q976; go_wp2
                (try simp only [← hl3_3])
                go_roundg k3
                case measure => have := HK1.out; have := HK2.out; have := HK3.out; omega
                case rel => exact ⟨(x3_3), (wrap64 (x38_3 + 1)), (tF), H', ⟨by have := HK1.out; have := HK2.out; have := HK3.out; omega⟩, ⟨by (try simp only [hl3_3]); refine tR ?_; exact HO_3.out⟩, ⟨by (try simp only [hl3_3]); refine tBk ?_; exact BK969.out⟩, ⟨tB⟩⟩
               ·rw [if_neg c25] at H; have c25b0 : decide (0 ≤ (rd x3_3 x38_3)) = false := decide_eq_false c25; clear c25; have H' := am H; clear H; have p975 : 0 ≤ (x38_3 : Int) := oA; have q975 : x38_3 < (l0_3.length : Int) := oA; obtain ⟨ad975, A975_0, c975_0, e975, hx975_0, hl975_0, hi975_0⟩ := ze4 HR0_3.out x38_3 p975 q975; cases e975; replace hx975_0 := (HB.out.cell (World.block_lt_of_cell? w _ hx975_0)).trans hx975_0; have HR975_0 := am hi975_0; have HC975_0 := am hl975_0; clear hi975_0 hl975_0; replace p975 := eq_true p975; replace q975 := eq_true q975; have p976 : 0 ≤ (x38_3 : Int) := oA; have q976 : x38_3 < (x3_3.length : Int) := oA; obtain ⟨ad976, e976, hx976_0⟩ := Kd.yk0 (Kd.zt0 HO_3.out).2.2 x38_3 p976 q976; cases e976; replace p976 := eq_true p976; replace q976 := eq_true q976; go_wp2
                go_loopg [50] k3 (fun kq v50 w' => ∃ (x3_4 : List Int) (x50_4 : Int), v50 = .int .i64 x50_4 ∧ zd0 (ze0.l3 kq x3_4 x6_2 x38_3 l0_3 (l0_3.length : Int) x38_3 (rd_L6 l0_3 x38_3) ((rd_L6 l0_3 x38_3).length : Int) x50_4 a0_0 a0_1 l0_2 l0_3 = some r) ∧ zd0 (kq ≤ k3) ∧ zd0 (Kd.R (Kd.int .i64) 3 w' w.heap.size (fun _ => True) (.slice (some ad976) x3_3.length co19) x3_4) ∧ zd0 (w'.heap[gb969]? = some (.cells #[.int .i64 a0_0, .int .i64 a0_1, (.slice A0_2 l0_2.length c0_2), (.slice (some ad975) l0_3.length c0_3)] 64 (0, 0))) ∧ zd0 (Below w.heap.size w w'))
                case atStart => exact ⟨(x3_3), (0), (tF), H', ⟨Nat.le_refl _⟩, ⟨by (try simp only [hl3_3]); refine tR ?_; exact HO_3.out⟩, ⟨by (try simp only [hl3_3]); refine tBk ?_; exact BK969.out⟩, ⟨tB⟩⟩
                case round =>
                 clear H'
                 try clear c1; try clear p1; try clear q1; try clear hx1; try clear hf1; try clear c2; try clear c2b0; try clear c2b1; try clear p2; try clear c3; try clear c3b0; try clear c3b1; try clear p6; try clear c9; try clear c9b0; try clear p9; try clear q9; try clear hx9; try clear c10; try clear c10b0; try clear c11; try clear c11b0; try clear q12; try clear c13; try clear c14; try clear c14b0; try clear p15; try clear q15; try clear hx15; try clear hf15; try clear c18; try clear c18b0; try clear c21; try clear c21b0; try clear c22; try clear c22b0; try clear c23; try clear c23b0; try clear c24; try clear c24b0; try clear c25; try clear c25b0; try clear hcz20_0; try clear hcz20_1; try clear hcz20_2; try clear hcz20_3; try clear hcz5_0; try clear hcz5_1; try clear hcz5_2; try clear hcz5_3; try clear hcz8_0; try clear hcz8_1; try clear hcz8_2; try clear hcz8_3; try clear hfz20_0; try clear hfz20_1; try clear hfz20_2; try clear hfz20_3; try clear hfz5_0; try clear hfz5_1; try clear hfz5_2; try clear hfz5_3; try clear hfz8_0; try clear hfz8_1; try clear hfz8_2; try clear hfz8_3; try clear hx15_0; try clear hx973_0; try clear hx975_0; try clear hx976_0; try clear p1; try clear p15; try clear p2; try clear p6; try clear p9; try clear p973; try clear p975; try clear p976; try clear q1; try clear q12; try clear q15; try clear q9; try clear q973; try clear q975; try clear q976
                 obtain ⟨x3_4, x50_4, rfl, HA, HK4, HO_3, BK969, HB⟩ := hrel; have hl3_4 := (Kd.zt0 HO_3.out).1; rw [hl3_4] at HO_3
                 (try simp only [hl3_4])
                 (try simp only [hl3_4] at BK969)
                 cases gk with
                 | zero => exact absurd HA.out (by simp [ze0.l3])
                 | succ k4 =>
                  have H := HA.out; clear HA; simp only [ze0.l3] at H; by_cases c26 : x50_4 < ((rd_L6 l0_3 x38_3).length : Int)
                  ·rw [if_pos c26] at H; have c26b0 := decide_eq_true c26; clear c26; by_cases c27 : 0 ≤ x50_4
                   ·rw [if_pos c27] at H; have c27b0 := decide_eq_true c27; clear c27; by_cases c28 : x50_4 < ((rd_L6 l0_3 x38_3).length : Int)
                    ·rw [if_pos c28] at H; have c28b0 := decide_eq_true c28; clear c28; by_cases c29 : 0 ≤ (rd (rd_L6 l0_3 x38_3) x50_4)
                     ·rw [if_pos c29] at H; have c29b0 := decide_eq_true c29; clear c29; by_cases c30 : (rd (rd_L6 l0_3 x38_3) x50_4) < (x3_4.length : Int)
                      ·rw [if_pos c30] at H; have c30b0 := decide_eq_true c30; clear c30; by_cases c31 : (rd x3_4 (rd (rd_L6 l0_3 x38_3) x50_4)) = (wrap64 (x6_2 - 1))
                       ·rw [if_pos c31] at H; have c31b0 : ((rd x3_4 (rd (rd_L6 l0_3 x38_3) x50_4)) == (wrap64 (x6_2 - 1))) = true := beq_iff_eq.mpr c31; have c31b1 : ((rd x3_4 (rd (rd_L6 l0_3 x38_3) x50_4)) != (wrap64 (x6_2 - 1))) = false := bne_eq_false_iff_eq.mpr c31; clear c31; by_cases c32 : 0 ≤ x38_3
                        ·rw [if_pos c32] at H; have c32b0 := decide_eq_true c32; clear c32; by_cases c33 : x38_3 < (x3_4.length : Int)
                         ·rw [if_pos c33] at H; have c33b0 := decide_eq_true c33; clear c33; obtain ⟨y979, hy979⟩ : ∃ y_ : List Int, y_ = (x3_4.set (x38_3 : Int).toNat x6_2) := ⟨_, rfl⟩; replace H : (ze0.l2 k4 y979 x6_2 l0_3 (l0_3.length : Int) (wrap64 (x38_3 + 1)) a0_0 a0_1 l0_2 l0_3) = some r := tY hy979 H; have Ny979 := am hy979; clear hy979; have H' := am H; clear H; have p977 : 0 ≤ (x50_4 : Int) := oA; have q977 : x50_4 < ((rd_L6 l0_3 x38_3).length : Int) := oA; obtain ⟨ad977, e977, hx977_0⟩ := Kd.yk0 HR975_0.out x50_4 p977 q977; cases e977; replace hx977_0 := (HB.out.cell (World.block_lt_of_cell? w _ hx977_0)).trans hx977_0; replace p977 := eq_true p977; replace q977 := eq_true q977; have p978 : 0 ≤ ((rd (rd_L6 l0_3 x38_3) x50_4) : Int) := oA; have q978 : (rd (rd_L6 l0_3 x38_3) x50_4) < (x3_4.length : Int) := oA; obtain ⟨ad978, e978, hx978_0⟩ := Kd.yk0 (Kd.zt0 HO_3.out).2.2 (rd (rd_L6 l0_3 x38_3) x50_4) p978 q978; obtain rfl : ad976 = ad978 := (by injection e978); replace p978 := eq_true p978; replace q978 := eq_true q978; have p34 : 0 ≤ (x38_3 : Int) := oA; have q34 : (x38_3 : Int) < ((x3_4.length : Int) : Int) := oA; obtain ⟨go34, co34, eo34, gb34, gl34, cl34, HG34⟩ := Kd.jl0 HO_3.out (by omega)
                          (first | cases eo34 | (injection eo34 with ea_ en_ ec_; (first | subst ea_ | (injection ea_ with ea_; subst ea_)); subst ec_; clear en_))
                          have GB34 := am gb34; have GG34 := am HG34; clear gb34 gl34 HG34
                          (first | simp only [add_plain] at hx976_0 | skip)
                          (first | simp only [add_plain] at hx978_0 | skip)
                          obtain ⟨hx34_0, hf34_0⟩ := Kd.qx0 0 HO_3.out (x38_3 : Int) p34 q34; replace p34 := eq_true p34; replace q34 := eq_true q34; have HP35 := Kd.zu1 HO_3.out (x38_3 : Int) x6_2
                          go_wp2_with (first | ((with_reducible refine xo0 (t := 3) (p := 64) rfl ?_); refine xh0 (t := 3) (p := 64) (v := ?vo_w36) (w1 := (wr.setCell ⟨go34, (x38_3 : Int).toNat, none⟩ (.int .i64 x6_2))) ?hg ?ho ?hn ?hr ?_; (case ho => rfl); (case hg => rfl); (case hn => rfl); (case hr => first | (go_simp; done) | (go_simp; rfl)); intro w36 hw; have hg : wr.grownBy w36 (some go34) := (by rw [hw]; exact HP35.2); have hp_ : Kd.R (Kd.int .i64) 3 w36 w.heap.size (fun _ => True) (.slice (some ⟨go34, 0, none⟩) x3_4.length co19) y979 := (by rw [hw, Ny979.out]; exact HP35.1); clear HP35; replace BK969 := am (xx0 (g := gb969) (o := .cells #[.int .i64 a0_0, .int .i64 a0_1, .slice A0_2 l0_2.length c0_2, .slice (some ad975) l0_3.length c0_3] 64 (0, 0)) (tBk BK969.out) hg (Kd.R_ne HO_3.out BK969.out (by decide))); replace HO_3 := am (hp_); replace HB := am ((by rw [hw]; exact xi0 (HB.out) GB34.out : Below w.heap.size w w36)); clear hg hw hp_))
                          (try simp only [← hl3_3, ← hl3_4])
                          go_roundg k4
                          case measure => have := HK1.out; have := HK2.out; have := HK3.out; have := HK4.out; omega
                          case rel => exact ⟨(y979), (wrap64 (x38_3 + 1)), (tF), H', ⟨by have := HK1.out; have := HK2.out; have := HK3.out; have := HK4.out; omega⟩, ⟨by (try simp only [hl3_3]); (try simp only [hl3_4]); refine tR ?_; exact HO_3.out⟩, ⟨by (try simp only [hl3_3]); (try simp only [hl3_4]); refine tBk ?_; exact BK969.out⟩, ⟨tB⟩⟩
                         ·rw [if_neg c33] at H; exact absurd H (by simp)
                        ·rw [if_neg c32] at H; exact absurd H (by simp)
                       ·rw [if_neg c31] at H; have c31b0 : ((rd x3_4 (rd (rd_L6 l0_3 x38_3) x50_4)) == (wrap64 (x6_2 - 1))) = false := beq_eq_false_iff_ne.mpr c31; have c31b1 : ((rd x3_4 (rd (rd_L6 l0_3 x38_3) x50_4)) != (wrap64 (x6_2 - 1))) = true := bne_iff_ne.mpr c31; have H' := am H; clear H; have p977 : 0 ≤ (x50_4 : Int) := oA; have q977 : x50_4 < ((rd_L6 l0_3 x38_3).length : Int) := oA; obtain ⟨ad977, e977, hx977_0⟩ := Kd.yk0 HR975_0.out x50_4 p977 q977; cases e977; replace hx977_0 := (HB.out.cell (World.block_lt_of_cell? w _ hx977_0)).trans hx977_0; replace p977 := eq_true p977; replace q977 := eq_true q977; have p978 : 0 ≤ ((rd (rd_L6 l0_3 x38_3) x50_4) : Int) := oA; have q978 : (rd (rd_L6 l0_3 x38_3) x50_4) < (x3_4.length : Int) := oA; obtain ⟨ad978, e978, hx978_0⟩ := Kd.yk0 (Kd.zt0 HO_3.out).2.2 (rd (rd_L6 l0_3 x38_3) x50_4) p978 q978; obtain rfl : ad976 = ad978 := (by injection e978); replace p978 := eq_true p978; replace q978 := eq_true q978; go_wp2
                        (try simp only [← hl3_4])
                        go_roundg k4
                        case measure => have := HK1.out; have := HK2.out; have := HK3.out; have := HK4.out; omega
                        case rel => exact ⟨(x3_4), (wrap64 (x50_4 + 1)), (tF), H', ⟨by have := HK1.out; have := HK2.out; have := HK3.out; have := HK4.out; omega⟩, ⟨by (try simp only [hl3_3]); (try simp only [hl3_4]); refine tR ?_; exact HO_3.out⟩, ⟨by (try simp only [hl3_3]); (try simp only [hl3_4]); refine tBk ?_; exact BK969.out⟩, ⟨tB⟩⟩
                      ·rw [if_neg c30] at H; exact absurd H (by simp)
                     ·rw [if_neg c29] at H; exact absurd H (by simp)
                    ·rw [if_neg c28] at H; exact absurd H (by simp)
                   ·rw [if_neg c27] at H; exact absurd H (by simp)
                  ·rw [if_neg c26] at H; have c26b0 := decide_eq_false c26; clear c26; have H' := am H; clear H; go_wp2
                   (try simp only [← hl3_3, ← hl3_4])
                   go_roundg k4
                   case measure => have := HK1.out; have := HK2.out; have := HK3.out; have := HK4.out; omega
                   case rel => exact ⟨(x3_4), (wrap64 (x38_3 + 1)), (tF), H', ⟨by have := HK1.out; have := HK2.out; have := HK3.out; have := HK4.out; omega⟩, ⟨by (try simp only [hl3_3]); (try simp only [hl3_4]); refine tR ?_; exact HO_3.out⟩, ⟨by (try simp only [hl3_3]); (try simp only [hl3_4]); refine tBk ?_; exact BK969.out⟩, ⟨tB⟩⟩
              ·rw [if_neg c24] at H; exact absurd H (by simp)
             ·rw [if_neg c23] at H; exact absurd H (by simp)
            ·rw [if_neg c22] at H; exact absurd H (by simp)
           ·rw [if_neg c21] at H; have c21b0 := decide_eq_false c21; clear c21; have H' := am H; clear H; go_wp2
            (try simp only [← hl3_3])
            go_roundg k3
            case measure => have := HK1.out; have := HK2.out; have := HK3.out; omega
            case rel => exact ⟨(x3_3), (wrap64 (x6_2 + 1)), (tF), H', ⟨by have := HK1.out; have := HK2.out; have := HK3.out; omega⟩, ⟨by (try simp only [hl3_3]); refine tR ?_; exact HO_3.out⟩, ⟨by (try simp only [hl3_3]); refine tBk ?_; exact BK969.out⟩, ⟨tB⟩⟩
        ·rw [if_neg c18] at H; have c18b0 := decide_eq_false c18; clear c18; obtain rfl := Option.some.inj H; obtain ⟨Ao37, co37, eo37⟩ := Kd.zq0 HO_3.out; subst eo37; go_wp2; go_ret; exact ⟨_, tE, by refine tR ?_; exact HO_3.out, tB⟩
  ·rw [if_neg c3] at H; exact absurd H (by simp)
 ·rw [if_neg c2] at H; exact absurd H (by simp)
def yb0.l0 : Nat → Int → Int → List Int → Option (List Int)
 | 0, _, _, _ => none
 | k + 1, x0, x1, x5 => if x0 > 0 then (if x5.length < 17592186044416 then (yb0.l0 k (wrap64 (x0 - 1)) (wrap64 (Int.tdiv x1 3)) (x5 ++ [Int.tmod x1 3])) else (none)) else (some x5)
def yb0.f (k : Nat) (a0 : Int) (a1 : Int) : Option (List Int) := yb0.l0 k a0 a1 ([] : List Int)
theorem yb0.mono_l : ∀ k, (∀ y0 y1 y2, LeO (yb0.l0 k y0 y1 y2) (yb0.l0 (k + 1) y0 y1 y2))
 | 0 => fun _ _ _ r h => by simp [yb0.l0] at h
 | k + 1 => by
  have ih0 := yb0.mono_l k
  ·intro y0 y1 y2; unfold yb0.l0
   repeat' first
   | (with_reducible exact ih0 _ _ _)
   | (with_reducible exact LeO.refl _)
   | (with_reducible exact LeO.none _)
   | (with_reducible refine LeO.ite ?_ ?_)
   | (with_reducible refine LeO.bind ?_ (fun _ => ?_))
   | exact ih0 _ _ _
   | exact LeO.none _
   | refine LeO.ite ?_ ?_
   | refine LeO.bind ?_ (fun _ => ?_)
theorem yb0.mono : ∀ a0 a1 k, LeO (yb0.f k a0 a1) (yb0.f (k + 1) a0 a1) := by
 intro a0 a1 k; have ih0 := yb0.mono_l k; unfold yb0.f
 repeat' first
   | (with_reducible exact ih0 _ _ _)
   | (with_reducible exact LeO.refl _)
   | (with_reducible exact LeO.none _)
   | (with_reducible refine LeO.ite ?_ ?_)
   | (with_reducible refine LeO.bind ?_ (fun _ => ?_))
   | exact ih0 _ _ _
   | exact LeO.none _
   | refine LeO.ite ?_ ?_
   | refine LeO.bind ?_ (fun _ => ?_)
theorem yb0.calls (k : Nat) (a0 : Int) (a1 : Int) (r : List Int) (w : World) (h : yb0.f k a0 a1 = some r) :
  Calls Tryd.prog 82 #[.int .i64 a0, .int .i64 a1] w fun e w' => ∃ v0_ : Value, e = .returned (v0_) ∧ Kd.R (Kd.int .i64) 3 w' w.heap.size (fun _ => True) v0_ r ∧ Below w.heap.size w w' := by
 have HB := am (Below.refl w.heap.size w); have H : (yb0.l0 k a0 a1 ([] : List Int)) = some r := h; clear h; have H' := am H; clear H; go_enter Tryd.func82, Tryd.ntmps82; go_wp2
 go_loopg [0, 1, 5] k (fun kq v0 v1 v5 w' => ∃ (x0_1 : Int) (x1_1 : Int) (x5_1 : List Int), v0 = .int .i64 x0_1 ∧ v1 = .int .i64 x1_1 ∧ zd0 (yb0.l0 kq x0_1 x1_1 x5_1 = some r) ∧ zd0 (kq ≤ k) ∧ zd0 (Kd.R (Kd.int .i64) 3 w' w.heap.size (fun _ => True) v5 x5_1) ∧ zd0 (Below w.heap.size w w'))
 case atStart => exact ⟨(a0), (a1), (([] : List Int)), (tF), (tF), H', ⟨Nat.le_refl _⟩, ⟨by first | exact Kd.zm1 _ _ _ _ _ | exact Kd.yg3 _ _ _ _ _ | exact Kd.yb3 _ _ _ _ _ | exact Kd.ye3 _ _ _ _ _ | exact Kd.jr1 _ _ _ _ _⟩, ⟨tB⟩⟩
 case round =>
  clear H'
  try clear p2
  obtain ⟨x0_1, x1_1, x5_1, rfl, rfl, HA, HK1, HO_5, HB⟩ := hrel
  cases gk with
  | zero => exact absurd HA.out (by simp [yb0.l0])
  | succ k1 =>
   have H := HA.out; clear HA; simp only [yb0.l0] at H; by_cases c3 : x0_1 > 0
   ·rw [if_pos c3] at H; have c3b0 : decide (0 < x0_1) = true := decide_eq_true c3; clear c3; by_cases c4 : x5_1.length < 17592186044416
    ·rw [if_pos c4] at H; have LMc4 := am c4; clear c4; obtain ⟨y212, hy212⟩ : ∃ y_ : List Int, y_ = (x5_1 ++ [Int.tmod x1_1 3]) := ⟨_, rfl⟩; replace H : (yb0.l0 k1 (wrap64 (x0_1 - 1)) (wrap64 (Int.tdiv x1_1 3)) y212) = some r := tY hy212 H; have Ny212 := am hy212; clear hy212; have H' := am H; clear H
     go_wp2_with (first | ((with_reducible refine yf0 (b := .append) (xs := #[.tmp 10, .tmp 13]) rfl ?_); at_builtin; refine Kd.xk0 (Kd.int .i64) (w0 := w) w.heap.size rfl (.tmp 10) (.tmp 13) 81 3 (.int .i64 0) 8 rfl Tryd.underlying81 info3 rfl (by decide) (by omega) u5 x5_1 (Int.tmod x1_1 3) [.int .i64 (Int.tmod x1_1 3)] (fun _ => True) (fun _ => False) rfl rfl ?aP (fun _ hk => hk.elim) ?aF ?aO ?aB ?aS ?aL ?_; (case aP => exact rfl); (case aB => exact (tB)); (case aF => exact (fun _ _ => trivial)); (case aO => exact (tR HO_5.out)); (case aS => exact (zm0 (tB))); (case aL => have := LMc4.out; omega); intro v213 w5 ho hb hg hat; rw [← Ny212.out] at ho; replace HB := am (hb); have HO214 := am (ho); clear HO_5; clear ho hb hg hat))
     go_roundg k1
     case measure => have := HK1.out; omega
     case rel => exact ⟨(wrap64 (x0_1 - 1)), (wrap64 (Int.tdiv x1_1 3)), (y212), (tF), (tF), H', ⟨by have := HK1.out; omega⟩, ⟨by refine tR ?_; exact HO214.out⟩, ⟨tB⟩⟩
    ·rw [if_neg c4] at H; exact absurd H (by simp)
   ·rw [if_neg c3] at H; have c3b0 : decide (0 < x0_1) = false := decide_eq_false c3; clear c3; obtain rfl := Option.some.inj H; go_wp2; go_ret; exact ⟨_, tE, by refine tR ?_; exact HO_5.out, tB⟩
mutual
def zo0.l0 : Nat → Int → List ByteArray → List Int → Int → Int → Option (List ByteArray × Bool)
 | 0, _, _, _, _, _ => none
 | k + 1, x0, x6, x13, x14, x15 => if x15 < x14 then (if 0 ≤ x15 then (if x15 < (x13.length : Int) then ((yb0.f k x0 (rd x13 x15)).bind fun t984 => (zo0.l1 k x0 x6 x15 x13 x14 x15 t984 (t984.length : Int) 0)) else (none)) else (none)) else (some (x6, true))
def zo0.l1 : Nat → Int → List ByteArray → Int → List Int → Int → Int → List Int → Int → Int → Option (List ByteArray × Bool)
 | 0, _, _, _, _, _, _, _, _, _ => none
 | k + 1, x0, x6, x7, x13, x14, x15, x22, x23, x24 => if x24 < x23 then (if 0 ≤ x24 then (if x24 < (x22.length : Int) then (if (rd x22 x24) = 2 then (zo0.l1 k x0 x6 x7 x13 x14 x15 x22 x23 (wrap64 (x24 + 1))) else (if x24 < (x6.length : Int) then (if ((rdOf ByteArray.empty x6 x24).size : Int) < x7 then (some (([] : List ByteArray), false)) else (if 0 ≤ (rd x22 x24) then (if (rd x22 x24) ≤ (wrap64 ((rd x22 x24) + 1)) then (if (wrap64 ((rd x22 x24) + 1)) ≤ 2 then (if (rdOf ByteArray.empty x6 x24).size + ((⟨#[97, 98]⟩ : ByteArray).extract ((rd x22 x24) : Int).toNat ((wrap64 ((rd x22 x24) + 1)) : Int).toNat).size ≤ 9223372036854775807 then (zo0.l1 k x0 (x6.set (x24 : Int).toNat ((rdOf ByteArray.empty x6 x24) ++ ((⟨#[97, 98]⟩ : ByteArray).extract ((rd x22 x24) : Int).toNat ((wrap64 ((rd x22 x24) + 1)) : Int).toNat))) x7 x13 x14 x15 x22 x23 (wrap64 (x24 + 1))) else (none)) else (none)) else (none)) else (none))) else (none))) else (none)) else (none)) else (zo0.l0 k x0 x6 x13 x14 (wrap64 (x15 + 1)))
end
def zo0.f (k : Nat) (a0 : Int) (l1 : List Int) : Option (List ByteArray × Bool) := if 0 ≤ a0 then (if (a0 : Int).toNat ≤ 17592186044416 then (zo0.l0 k a0 (List.replicate (a0 : Int).toNat (⟨#[]⟩ : ByteArray)) l1 (l1.length : Int) 0) else (none)) else (none)
theorem zo0.mono_l : ∀ k, (∀ y0 y1 y2 y3 y4, LeO (zo0.l0 k y0 y1 y2 y3 y4) (zo0.l0 (k + 1) y0 y1 y2 y3 y4)) ∧ (∀ y0 y1 y2 y3 y4 y5 y6 y7 y8, LeO (zo0.l1 k y0 y1 y2 y3 y4 y5 y6 y7 y8) (zo0.l1 (k + 1) y0 y1 y2 y3 y4 y5 y6 y7 y8))
 | 0 => ⟨fun _ _ _ _ _ r h => by simp [zo0.l0] at h, fun _ _ _ _ _ _ _ _ _ r h => by simp [zo0.l1] at h⟩
 | k + 1 => by
  obtain ⟨ih0, ih1⟩ := zo0.mono_l k; refine ⟨?_, ?_⟩
  ·intro y0 y1 y2 y3 y4; unfold zo0.l0
   repeat' first
   | (with_reducible exact ih0 _ _ _ _ _)
   | (with_reducible exact ih1 _ _ _ _ _ _ _ _ _)
   | (with_reducible exact yb0.mono _ _ _)
   | (with_reducible exact LeO.refl _)
   | (with_reducible exact LeO.none _)
   | (with_reducible refine LeO.ite ?_ ?_)
   | (with_reducible refine LeO.bind ?_ (fun _ => ?_))
   | exact ih0 _ _ _ _ _
   | exact ih1 _ _ _ _ _ _ _ _ _
   | exact yb0.mono _ _ _
   | exact LeO.none _
   | refine LeO.ite ?_ ?_
   | refine LeO.bind ?_ (fun _ => ?_)
  ·intro y0 y1 y2 y3 y4 y5 y6 y7 y8; unfold zo0.l1
   repeat' first
   | (with_reducible exact ih0 _ _ _ _ _)
   | (with_reducible exact ih1 _ _ _ _ _ _ _ _ _)
   | (with_reducible exact yb0.mono _ _ _)
   | (with_reducible exact LeO.refl _)
   | (with_reducible exact LeO.none _)
   | (with_reducible refine LeO.ite ?_ ?_)
   | (with_reducible refine LeO.bind ?_ (fun _ => ?_))
   | exact ih0 _ _ _ _ _
   | exact ih1 _ _ _ _ _ _ _ _ _
   | exact yb0.mono _ _ _
   | exact LeO.none _
   | refine LeO.ite ?_ ?_
   | refine LeO.bind ?_ (fun _ => ?_)
theorem zo0.mono : ∀ a0 a1 k, LeO (zo0.f k a0 a1) (zo0.f (k + 1) a0 a1) := by
 intro a0 a1 k; obtain ⟨ih0, ih1⟩ := zo0.mono_l k; unfold zo0.f
 repeat' first
   | (with_reducible exact ih0 _ _ _ _ _)
   | (with_reducible exact ih1 _ _ _ _ _ _ _ _ _)
   | (with_reducible exact yb0.mono _ _ _)
   | (with_reducible exact LeO.refl _)
   | (with_reducible exact LeO.none _)
   | (with_reducible refine LeO.ite ?_ ?_)
   | (with_reducible refine LeO.bind ?_ (fun _ => ?_))
   | exact ih0 _ _ _ _ _
   | exact ih1 _ _ _ _ _ _ _ _ _
   | exact yb0.mono _ _ _
   | exact LeO.none _
   | refine LeO.ite ?_ ?_
   | refine LeO.bind ?_ (fun _ => ?_)
def zo0.T11 : Bool × List (List Nat × List Nat) := (true, [([], []), ([], []), ([0, 1], [0, 1]), ([2], [2]), ([], []), ([], []), ([5], [5]), ([4, 6], [4, 6]), ([3, 7], [3, 7]), ([0, 1, 0, 1, 2, 3, 4, 5, 6, 7, 8], [0, 1]), ([9, 8, 0, 1, 2, 3, 4, 5, 6, 7, 8], [8, 9])])
def zo0.B11 : List Nat := [0, 0, 3, 7, 0, 0, 32, 112, 255, 511, 1023]
theorem zo0.tab11 : rtab .any (opsOf Tryd.f135 11) = zo0.T11 := by kernel_rfl
theorem zo0.bits11 : yq1 zo0.T11.2 zo0.B11 = true := by kernel_rfl
theorem zo0.calls (k : Nat) (a0 : Int) (A1 : Option Addr) (c1 : Nat) (l1 : List Int) (r1 : List ByteArray) (r2 : Bool) (w : World) (hr1 : Kd.C (Kd.int .i64) w A1 l1.length l1) (hc1 : l1.length ≤ c1) (h : zo0.f k a0 l1 = some (r1, r2)) :
  Calls Tryd.prog 135 #[.int .i64 a0, .slice A1 l1.length c1] w fun e w' => ∃ v0_ : Value, e = .returned (.tuple #[v0_, .bool r2]) ∧ Kd.R Kd.string 9 w' w.heap.size (fun _ => True) v0_ r1 ∧ Below w.heap.size w w' := by
 have HR1 := am hr1; have HC1 := am hc1; clear hr1 hc1; have HB := am (Below.refl w.heap.size w); have H : (if 0 ≤ a0 then (if (a0 : Int).toNat ≤ 17592186044416 then (zo0.l0 k a0 (List.replicate (a0 : Int).toNat (⟨#[]⟩ : ByteArray)) l1 (l1.length : Int) 0) else (none)) else (none)) = some (r1, r2) := h; clear h; by_cases c3 : 0 ≤ a0
 ·rw [if_pos c3] at H; have c3b0 := eq_true c3; have c3b1 := decide_eq_true c3; clear c3; by_cases c4 : (a0 : Int).toNat ≤ 17592186044416
  ·rw [if_pos c4] at H; have c4b0 := eq_true c4; have c4b1 := decide_eq_true c4; clear c4; obtain ⟨y980, hy980⟩ : ∃ y_ : List ByteArray, y_ = (List.replicate (a0 : Int).toNat (⟨#[]⟩ : ByteArray)) := ⟨_, rfl⟩; replace H : (zo0.l0 k a0 y980 l1 (l1.length : Int) 0) = some (r1, r2) := tY hy980 H; have Ny980 := am hy980; clear hy980; have H' := am H; clear H; go_enter Tryd.func135, Tryd.ntmps135
   go_wp2_with (first | ((with_reducible refine yi0 (N := 12) rfl ?_); refine Kd.zi1 Kd.string _ 9 rfl (N := 12) rfl 48 _ _ rfl a0 rfl rfl Tryd.underlying48 (.string ⟨#[]⟩) 16 ju4 rfl (by decide) (by omega) (⟨#[]⟩ : ByteArray) (ok := fun _ => True) (okp := fun _ => True) rfl (fun _ hk => hk) trivial (oA) (Nat.le_trans (Nat.mul_le_mul_right _ (oA : a0.toNat ≤ 17592186044416)) (by omega)) (Below.refl _ _) (Nat.le_refl _) ?_; intro v981 w5 ho6 hb hg_ hnew_; clear hg_ hnew_; (first | rw [← Ny980.out] at ho6 | (simp only [Int.reduceToNat] at ho6; rw [← Ny980.out] at ho6)); have HO982 := am (Kd.yx0 ho6 (zm0 (tB))); replace HB := am (zr0 (tB) hb); clear hb ho6))
   go_loopg [15] k (fun kq v15 w' => ∃ (x6_1 : List ByteArray) (x15_1 : Int), v15 = .int .i64 x15_1 ∧ zd0 (zo0.l0 kq a0 x6_1 l1 (l1.length : Int) x15_1 = some (r1, r2)) ∧ zd0 (kq ≤ k) ∧ zd0 (Kd.R Kd.string 9 w' w.heap.size (fun _ => True) v981 x6_1) ∧ zd0 (Below w.heap.size w w'))
   case atStart => exact ⟨(y980), (0), (tF), H', ⟨Nat.le_refl _⟩, ⟨by refine tR ?_; exact HO982.out⟩, ⟨tB⟩⟩
   case round =>
    clear H'
    try clear c1; try clear p2; try clear c3; try clear c3b0; try clear c3b1; try clear c4; try clear c4b0; try clear c4b1
    obtain ⟨x6_1, x15_1, rfl, HA, HK1, HO_6, HB⟩ := hrel
    cases gk with
    | zero => exact absurd HA.out (by simp [zo0.l0])
    | succ k1 =>
     have H := HA.out; clear HA; simp only [zo0.l0] at H; by_cases c7 : x15_1 < (l1.length : Int)
     ·rw [if_pos c7] at H; have c7b0 := decide_eq_true c7; clear c7; by_cases c8 : 0 ≤ x15_1
      ·rw [if_pos c8] at H; have c8b0 := decide_eq_true c8; clear c8; by_cases c9 : x15_1 < (l1.length : Int)
       ·rw [if_pos c9] at H; have c9b0 := decide_eq_true c9; clear c9; obtain ⟨t984, A100, H⟩ := oB H; replace H : (zo0.l1 k1 a0 x6_1 x15_1 l1 (l1.length : Int) x15_1 t984 (t984.length : Int) 0) = some (r1, r2) := H; have A10 := am A100; clear A100; have H' := am H; clear H; have p983 : 0 ≤ (x15_1 : Int) := oA; have q983 : x15_1 < (l1.length : Int) := oA; obtain ⟨ad983, e983, hx983_0⟩ := Kd.yk0 HR1.out x15_1 p983 q983; cases e983; replace hx983_0 := (HB.out.cell (World.block_lt_of_cell? w _ hx983_0)).trans hx983_0; replace p983 := eq_true p983; replace q983 := eq_true q983
        go_wp2_with (first | ((with_reducible refine yg0 (f := 82) rfl ?_); refine xu0 (some 22) Tryd.func82 #[.int .i64 a0, .int .i64 (rd l1 x15_1)] rfl rfl rfl (h := ?_); (with_reducible refine (yb0.calls k1 a0 (rd l1 x15_1) t984 _ A10.out).mono ?_); rintro e w11 ⟨v985, rfl, ho0, hb⟩; refine ⟨_, rfl, ?_⟩; replace HO_6 := am (Kd.yo0 (tR HO_6.out) hb); have HO986 := am (Kd.yx0 ho0 (zm0 (tB))); replace HB := am (zr0 (tB) hb); (try clear hb); (try clear hb2); (try clear hk); (try clear hi); (try clear ho0); obtain ⟨Ao12, co12, eo12⟩ := Kd.zq0 HO986.out; subst eo12))
        go_loopg [24] k1 (fun kq v24 w' => ∃ (x6_2 : List ByteArray) (x24_2 : Int), v24 = .int .i64 x24_2 ∧ zd0 (zo0.l1 kq a0 x6_2 x15_1 l1 (l1.length : Int) x15_1 t984 (t984.length : Int) x24_2 = some (r1, r2)) ∧ zd0 (kq ≤ k1) ∧ zd0 (Kd.R Kd.string 9 w' w.heap.size (fun _ => True) v981 x6_2) ∧ zd0 (Kd.R (Kd.int .i64) 3 w' w.heap.size (fun _ => True) (.slice Ao12 t984.length co12) t984) ∧ zd0 (Below w.heap.size w w'))
        case atStart => exact ⟨(x6_1), (0), (tF), H', ⟨Nat.le_refl _⟩, ⟨by refine tR ?_; exact HO_6.out⟩, ⟨by refine tR ?_; exact HO986.out⟩, ⟨tB⟩⟩
        case round =>
         clear H'
         try clear c1; try clear p2; try clear c3; try clear c3b0; try clear c3b1; try clear c4; try clear c4b0; try clear c4b1; try clear c7; try clear c7b0; try clear c8; try clear c8b0; try clear c9; try clear c9b0; try clear p9; try clear q9; try clear hx9; try clear hx983_0; try clear p2; try clear p983; try clear q983
         obtain ⟨x6_2, x24_2, rfl, HA, HK2, HO_6, HO_22, HB⟩ := hrel
         cases gk with
         | zero => exact absurd HA.out (by simp [zo0.l1])
         | succ k2 =>
          have H := HA.out; clear HA; simp only [zo0.l1] at H; by_cases c13 : x24_2 < (t984.length : Int)
          ·rw [if_pos c13] at H; have c13b0 := decide_eq_true c13; clear c13; by_cases c14 : 0 ≤ x24_2
           ·rw [if_pos c14] at H; have c14b0 := decide_eq_true c14; clear c14; by_cases c15 : x24_2 < (t984.length : Int)
            ·rw [if_pos c15] at H; have c15b0 := decide_eq_true c15; clear c15; by_cases c16 : (rd t984 x24_2) = 2
             ·rw [if_pos c16] at H; have c16b0 : ((rd t984 x24_2) == 2) = true := beq_iff_eq.mpr c16; have c16b1 : ((rd t984 x24_2) != 2) = false := bne_eq_false_iff_eq.mpr c16; clear c16; have H' := am H; clear H; have p987 : 0 ≤ (x24_2 : Int) := oA; have q987 : x24_2 < (t984.length : Int) := oA; obtain ⟨ad987, e987, hx987_0⟩ := Kd.yk0 (Kd.zt0 HO_22.out).2.2 x24_2 p987 q987; cases e987; replace p987 := eq_true p987; replace q987 := eq_true q987; go_wp2; go_roundg k2
              case measure => have := HK1.out; have := HK2.out; omega
              case rel => exact ⟨(x6_2), (wrap64 (x24_2 + 1)), (tF), H', ⟨by have := HK1.out; have := HK2.out; omega⟩, ⟨by refine tR ?_; exact HO_6.out⟩, ⟨by refine tR ?_; exact HO_22.out⟩, ⟨tB⟩⟩
             ·rw [if_neg c16] at H; have c16b0 : ((rd t984 x24_2) == 2) = false := beq_eq_false_iff_ne.mpr c16; have c16b1 : ((rd t984 x24_2) != 2) = true := bne_iff_ne.mpr c16; by_cases c17 : x24_2 < (x6_2.length : Int)
              ·rw [if_pos c17] at H; have c17b0 := decide_eq_true c17; clear c17; by_cases c18 : ((rdOf ByteArray.empty x6_2 x24_2).size : Int) < x15_1
               ·rw [if_pos c18] at H; have c18b0 := decide_eq_true c18; clear c18; simp only [Option.some.injEq, Prod.mk.injEq] at H; obtain ⟨rfl, rfl⟩ := H; have p987 : 0 ≤ (x24_2 : Int) := oA; have q987 : x24_2 < (t984.length : Int) := oA; obtain ⟨ad987, e987, hx987_0⟩ := Kd.yk0 (Kd.zt0 HO_22.out).2.2 x24_2 p987 q987; cases e987; replace p987 := eq_true p987; replace q987 := eq_true q987; obtain ⟨Ao19, co19, eo19⟩ := Kd.zq0 HO_6.out; subst eo19; have p988 : 0 ≤ (x24_2 : Int) := oA; have q988 : x24_2 < (x6_2.length : Int) := oA; obtain ⟨ad988, e988, hx988_0⟩ := Kd.qz0 (Kd.zt0 HO_6.out).2.2 x24_2 p988 q988; cases e988; replace p988 := eq_true p988; replace q988 := eq_true q988; go_wp2; go_ret2; exact ⟨_, tE, by first | exact Kd.zm1 _ _ _ _ _ | exact Kd.yg3 _ _ _ _ _ | exact Kd.yb3 _ _ _ _ _ | exact Kd.ye3 _ _ _ _ _ | exact Kd.jr1 _ _ _ _ _, tB⟩
               ·rw [if_neg c18] at H; have c18b0 := decide_eq_false c18; clear c18; by_cases c20 : 0 ≤ (rd t984 x24_2)
                ·rw [if_pos c20] at H; have c20b0 := eq_true c20; have c20b1 := decide_eq_true c20; clear c20; by_cases c21 : (rd t984 x24_2) ≤ (wrap64 ((rd t984 x24_2) + 1))
                 ·rw [if_pos c21] at H; have c21b0 := eq_true c21; have c21b1 := decide_eq_true c21; by_cases c22 : (wrap64 ((rd t984 x24_2) + 1)) ≤ 2
                  ·rw [if_pos c22] at H; have c22b0 := eq_true c22; have c22b1 := decide_eq_true c22; by_cases c23 : (rdOf ByteArray.empty x6_2 x24_2).size + ((⟨#[97, 98]⟩ : ByteArray).extract ((rd t984 x24_2) : Int).toNat ((wrap64 ((rd t984 x24_2) + 1)) : Int).toNat).size ≤ 9223372036854775807
                   ·rw [if_pos c23] at H; have c23b0 := eq_true c23; have c23b1 := decide_eq_true c23
                    try have c23b2 : (9223372036854775807 < (rdOf ByteArray.empty x6_2 x24_2).size + ((⟨#[97, 98]⟩ : ByteArray).extract ((rd t984 x24_2) : Int).toNat ((wrap64 ((rd t984 x24_2) + 1)) : Int).toNat).size) = False := eq_false (Nat.not_lt.2 c23)
                    try have c23b3 : (9223372036854775807 < (rdOf ByteArray.empty x6_2 x24_2).size + ((wrap64 ((rd t984 x24_2) + 1)).toNat - ((rd t984 x24_2)).toNat)) = False := eq_false (by have w_ : wrap64 ((rd t984 x24_2) + 1) ≤ 2 := oA; have s_ : (⟨#[97, 98]⟩ : ByteArray).size = 2 := rfl; have h_ := c23; rw [ByteArray.size_extract, s_] at h_; omega)
                    obtain ⟨y990, hy990⟩ : ∃ y_ : List ByteArray, y_ = (x6_2.set (x24_2 : Int).toNat ((rdOf ByteArray.empty x6_2 x24_2) ++ ((⟨#[97, 98]⟩ : ByteArray).extract ((rd t984 x24_2) : Int).toNat ((wrap64 ((rd t984 x24_2) + 1)) : Int).toNat))) := ⟨_, rfl⟩; replace H : (zo0.l1 k2 a0 y990 x15_1 l1 (l1.length : Int) x15_1 t984 (t984.length : Int) (wrap64 (x24_2 + 1))) = some (r1, r2) := tY hy990 H; have Ny990 := am hy990; clear hy990; have H' := am H; clear H; have p987 : 0 ≤ (x24_2 : Int) := oA; have q987 : x24_2 < (t984.length : Int) := oA; obtain ⟨ad987, e987, hx987_0⟩ := Kd.yk0 (Kd.zt0 HO_22.out).2.2 x24_2 p987 q987; cases e987; replace p987 := eq_true p987; replace q987 := eq_true q987; obtain ⟨Ao25, co25, eo25⟩ := Kd.zq0 HO_6.out; subst eo25; have p988 : 0 ≤ (x24_2 : Int) := oA; have q988 : x24_2 < (x6_2.length : Int) := oA; obtain ⟨ad988, e988, hx988_0⟩ := Kd.qz0 (Kd.zt0 HO_6.out).2.2 x24_2 p988 q988; cases e988; replace p988 := eq_true p988; replace q988 := eq_true q988
                    try go_wp2
                    replace HO_6 := am (Kd.xo1 HO_6.out); replace HO_22 := am (Kd.xo1 HO_22.out); replace HB := am (ye0 HB.out); have p989 : 0 ≤ (x24_2 : Int) := oA; have q989 : x24_2 < (x6_2.length : Int) := oA; obtain ⟨ad989, e989, hx989_0⟩ := Kd.qz0 (Kd.zt0 HO_6.out).2.2 x24_2 p989 q989; obtain rfl : ad988 = ad989 := (by injection e989); replace p989 := eq_true p989; replace q989 := eq_true q989; have p24 : 0 ≤ (x24_2 : Int) := oA; have q24 : (x24_2 : Int) < ((x6_2.length : Int) : Int) := oA; obtain ⟨go24, co24, eo24, gb24, gl24, cl24, HG24⟩ := Kd.jl0 HO_6.out (by omega)
                    (first | cases eo24 | (injection eo24 with ea_ en_ ec_; (first | subst ea_ | (injection ea_ with ea_; subst ea_)); subst ec_; clear en_))
                    have GB24 := am gb24; have GG24 := am HG24; clear gb24 gl24 HG24
                    (first | simp only [add_plain] at hx988_0 | skip)
                    (first | simp only [add_plain] at hx989_0 | skip)
                    obtain ⟨hx24_0, hf24_0⟩ := Kd.qx0 (⟨#[]⟩ : ByteArray) HO_6.out (x24_2 : Int) p24 q24; replace p24 := eq_true p24; replace q24 := eq_true q24; have HP27 := Kd.xu4 HO_6.out (x24_2 : Int) ((rdOf ByteArray.empty x6_2 x24_2) ++ ((⟨#[97, 98]⟩ : ByteArray).extract ((rd t984 x24_2) : Int).toNat ((wrap64 ((rd t984 x24_2) + 1)) : Int).toNat)); rw [← Ny990.out] at HP27; have HQ27 := am HP27; clear HP27; refine qu0 (n := 11) (S := fun w' => w'.cell? ⟨go24, (x24_2).toNat, none⟩ = some (.string (rdOf ByteArray.empty x6_2 x24_2))) (ds := [10]) #[false, false, false, false, false, false, false, false, false, false, false] (by kernel_rfl) rfl rfl (hx989_0) (fun hHeld => ?_); refine zx1 zo0.tab11 zo0.bits11 (fun HT_ HW_ => ?_)
                    generalize wr.drew = w26 at HO_6 HO_22 HB GG24 HQ27 hf24_0 hx24_0 hx988_0 hx989_0 hHeld ⊢
                    refine zz0 0 (some 38) (bl 11 1) rfl rfl (h := ?_); refine zz0 1 (some 39) (bl 11 3) rfl rfl (h := ?_); refine zz0 2 (some 40) (bl 11 7) rfl rfl (h := ?_); refine zz0 4 (some 42) (bl 11 23) rfl rfl (h := ?_); refine zz0 5 (some 43) (bl 11 55) rfl rfl (h := ?_); refine zz0 6 (some 44) (bl 11 119) rfl rfl (h := ?_); refine zz0 7 (some 45) (bl 11 247) rfl rfl (h := ?_); refine jg1 (i := 3) (N := some 41) (v := ?_) (a' := ?_) #[true, true, true, true, true, true, true, true, false, false, false] rfl rfl (zp1 HT_.out HW_.out (by kernel_rfl)) (fun _ _ _ h => h) (Or.inl ⟨by rfl, ?_⟩) hHeld ?_ ?_; rotate_left
                    ·intro w' s0; go_simp; (with_reducible rfl)
                    rotate_left
                    ·simp only [Act.put, List.setIfInBounds_toArray, List.set_cons_zero, List.set_cons_succ, jp0, ku0]; rfl
                    refine zz0 8 (some 46) (bl 11 511) rfl rfl (h := ?_); refine zz0 9 (some 47) (bl 11 1023) rfl rfl (h := ?_); refine jk1 (i := 10) (N := none) (bl 11 2047) rfl rfl (ze2 HT_.out (by kernel_rfl)) (by decide) (fun K hK => ?_); refine qb1 (w1 := ?_) (by rfl) rfl ?_ ?_; rotate_left
                    ·go_simp; rfl
                    refine hK.out _ _ ?_; clear hK K; refine kv0 (jm1 HT_.out (by kernel_rfl)) ?_
                    try go_wp2
                    go_roundg k2
                    case measure => have := HK1.out; have := HK2.out; omega
                    case rel => exact ⟨(y990), (wrap64 (x24_2 + 1)), (tF), H', ⟨by have := HK1.out; have := HK2.out; omega⟩, ⟨by refine tR ?_; exact HQ27.out⟩, ⟨by refine tR ?_; exact Kd.yl0 (Kd.jb0 (p := ⟨go24, (x24_2 : Int).toNat, none⟩) (Kd.zh1 HO_22.out GG24.out (by decide)) (fun _ hk => hk.2) (.string ((rdOf ByteArray.empty x6_2 x24_2) ++ ((⟨#[97, 98]⟩ : ByteArray).extract ((rd t984 x24_2) : Int).toNat ((wrap64 ((rd t984 x24_2) + 1)) : Int).toNat)))) (fun _ hk => trivial)⟩, ⟨by repeat (first | (with_reducible first | exact HB.out | apply zx0 | apply zg0 | apply ye0 | refine xi0 ?_ GB24.out) | exact HB.out)⟩⟩
                   ·rw [if_neg c23] at H; exact absurd H (by simp)
                  ·rw [if_neg c22] at H; exact absurd H (by simp)
                 ·rw [if_neg c21] at H; exact absurd H (by simp)
                ·rw [if_neg c20] at H; exact absurd H (by simp)
              ·rw [if_neg c17] at H; exact absurd H (by simp)
            ·rw [if_neg c15] at H; exact absurd H (by simp)
           ·rw [if_neg c14] at H; exact absurd H (by simp)
          ·rw [if_neg c13] at H; have c13b0 := decide_eq_false c13; clear c13; have H' := am H; clear H; go_wp2; go_roundg k2
           case measure => have := HK1.out; have := HK2.out; omega
           case rel => exact ⟨(x6_2), (wrap64 (x15_1 + 1)), (tF), H', ⟨by have := HK1.out; have := HK2.out; omega⟩, ⟨by refine tR ?_; exact HO_6.out⟩, ⟨tB⟩⟩
       ·rw [if_neg c9] at H; exact absurd H (by simp)
      ·rw [if_neg c8] at H; exact absurd H (by simp)
     ·rw [if_neg c7] at H; have c7b0 := decide_eq_false c7; clear c7; simp only [Option.some.injEq, Prod.mk.injEq] at H; obtain ⟨rfl, rfl⟩ := H; go_wp2; go_ret2; exact ⟨_, tE, by refine tR ?_; exact HO_6.out, tB⟩
  ·rw [if_neg c4] at H; exact absurd H (by simp)
 ·rw [if_neg c3] at H; exact absurd H (by simp)
mutual
def zk0.l0 : Nat → List Int → List Int → Int → Int → Int → List Bool → List (List Int) → Option (List ByteArray × Int)
 | 0, _, _, _, _, _, _, _ => none
 | k + 1, x4, x5, x6, x992000, x992001, x992002, x992003 => if 0 ≤ x6 then (if x6 < (x4.length : Int) then (if (rd x4 x6) > 0 then (zk0.l1 k x4 x5 x6 0 x992000 x992001 x992002 x992003) else ((zo0.f k x992000 x5).bind fun bt998 => (some (bt998.1, 0)))) else (none)) else (none)
def zk0.l1 : Nat → List Int → List Int → Int → Int → Int → Int → List Bool → List (List Int) → Option (List ByteArray × Int)
 | 0, _, _, _, _, _, _, _, _ => none
 | k + 1, x4, x5, x6, x7, x992000, x992001, x992002, x992003 => if 0 ≤ x6 then (if x6 < (x992003.length : Int) then (if 0 ≤ x7 then (if x7 < ((rd_L6 x992003 x6).length : Int) then (if 0 ≤ (rd (rd_L6 x992003 x6) x7) then (if (rd (rd_L6 x992003 x6) x7) < (x4.length : Int) then (if x6 < (x4.length : Int) then (if (rd x4 (rd (rd_L6 x992003 x6) x7)) = (wrap64 ((rd x4 x6) - 1)) then (if x5.length < 17592186044416 then (zk0.l0 k x4 (x5 ++ [x7]) (rd (rd_L6 x992003 x6) x7) x992000 x992001 x992002 x992003) else (none)) else (zk0.l1 k x4 x5 x6 (wrap64 (x7 + 1)) x992000 x992001 x992002 x992003)) else (none)) else (none)) else (none)) else (none)) else (none)) else (none)) else (none)
end
def zk0.f (k : Nat) (a0_0 : Int) (a0_1 : Int) (l0_2 : List Bool) (l0_3 : List (List Int)) : Option (List ByteArray × Int) := (ze0.f k a0_0 a0_1 l0_2 l0_3).bind fun t992 => (if 0 ≤ a0_1 then (if a0_1 < (t992.length : Int) then (if (rd t992 a0_1) < 0 then (some (([] : List ByteArray), 6)) else (if (rd t992 a0_1) > 40 then (some (([] : List ByteArray), 3)) else (zk0.l0 k t992 ([] : List Int) a0_1 a0_0 a0_1 l0_2 l0_3))) else (none)) else (none))
theorem zk0.mono_l : ∀ k, (∀ y0 y1 y2 y3 y4 y5 y6, LeO (zk0.l0 k y0 y1 y2 y3 y4 y5 y6) (zk0.l0 (k + 1) y0 y1 y2 y3 y4 y5 y6)) ∧ (∀ y0 y1 y2 y3 y4 y5 y6 y7, LeO (zk0.l1 k y0 y1 y2 y3 y4 y5 y6 y7) (zk0.l1 (k + 1) y0 y1 y2 y3 y4 y5 y6 y7))
 | 0 => ⟨fun _ _ _ _ _ _ _ r h => by simp [zk0.l0] at h, fun _ _ _ _ _ _ _ _ r h => by simp [zk0.l1] at h⟩
 | k + 1 => by
  obtain ⟨ih0, ih1⟩ := zk0.mono_l k; refine ⟨?_, ?_⟩
  ·intro y0 y1 y2 y3 y4 y5 y6; unfold zk0.l0
   repeat' first
   | (with_reducible exact ih0 _ _ _ _ _ _ _)
   | (with_reducible exact ih1 _ _ _ _ _ _ _ _)
   | (with_reducible exact ze0.mono _ _ _ _ _)
   | (with_reducible exact zo0.mono _ _ _)
   | (with_reducible exact LeO.refl _)
   | (with_reducible exact LeO.none _)
   | (with_reducible refine LeO.ite ?_ ?_)
   | (with_reducible refine LeO.bind ?_ (fun _ => ?_))
   | exact ih0 _ _ _ _ _ _ _
   | exact ih1 _ _ _ _ _ _ _ _
   | exact ze0.mono _ _ _ _ _
   | exact zo0.mono _ _ _
   | exact LeO.none _
   | refine LeO.ite ?_ ?_
   | refine LeO.bind ?_ (fun _ => ?_)
  ·intro y0 y1 y2 y3 y4 y5 y6 y7; unfold zk0.l1
   repeat' first
   | (with_reducible exact ih0 _ _ _ _ _ _ _)
   | (with_reducible exact ih1 _ _ _ _ _ _ _ _)
   | (with_reducible exact ze0.mono _ _ _ _ _)
   | (with_reducible exact zo0.mono _ _ _)
   | (with_reducible exact LeO.refl _)
   | (with_reducible exact LeO.none _)
   | (with_reducible refine LeO.ite ?_ ?_)
   | (with_reducible refine LeO.bind ?_ (fun _ => ?_))
   | exact ih0 _ _ _ _ _ _ _
   | exact ih1 _ _ _ _ _ _ _ _
   | exact ze0.mono _ _ _ _ _
   | exact zo0.mono _ _ _
   | exact LeO.none _
   | refine LeO.ite ?_ ?_
   | refine LeO.bind ?_ (fun _ => ?_)
theorem zk0.mono : ∀ a0 a1 a2 a3 k, LeO (zk0.f k a0 a1 a2 a3) (zk0.f (k + 1) a0 a1 a2 a3) := by
 intro a0 a1 a2 a3 k; obtain ⟨ih0, ih1⟩ := zk0.mono_l k; unfold zk0.f
 repeat' first
   | (with_reducible exact ih0 _ _ _ _ _ _ _)
   | (with_reducible exact ih1 _ _ _ _ _ _ _ _)
   | (with_reducible exact ze0.mono _ _ _ _ _)
   | (with_reducible exact zo0.mono _ _ _)
   | (with_reducible exact LeO.refl _)
   | (with_reducible exact LeO.none _)
   | (with_reducible refine LeO.ite ?_ ?_)
   | (with_reducible refine LeO.bind ?_ (fun _ => ?_))
   | exact ih0 _ _ _ _ _ _ _
   | exact ih1 _ _ _ _ _ _ _ _
   | exact ze0.mono _ _ _ _ _
   | exact zo0.mono _ _ _
   | exact LeO.none _
   | refine LeO.ite ?_ ?_
   | refine LeO.bind ?_ (fun _ => ?_)
theorem zk0.calls (k : Nat) (a0_0 : Int) (a0_1 : Int) (A0_2 : Option Addr) (c0_2 : Nat) (l0_2 : List Bool) (A0_3 : Option Addr) (c0_3 : Nat) (l0_3 : List (List Int)) (r1 : List ByteArray) (r2 : Int) (w : World) (hr0_2 : Kd.C Kd.bool w A0_2 l0_2.length l0_2) (hc0_2 : l0_2.length ≤ c0_2) (hr0_3 : Kd.C (Kd.slice 3 (Kd.int .i64)) w A0_3 l0_3.length l0_3) (hc0_3 : l0_3.length ≤ c0_3) (h : zk0.f k a0_0 a0_1 l0_2 l0_3 = some (r1, r2)) :
  Calls Tryd.prog 103 #[.agg #[.int .i64 a0_0, .int .i64 a0_1, .slice A0_2 l0_2.length c0_2, .slice A0_3 l0_3.length c0_3]] w fun e w' => ∃ v0_ : Value, e = .returned (.tuple #[v0_, .int .i64 r2]) ∧ Kd.R Kd.string 9 w' w.heap.size (fun _ => True) v0_ r1 ∧ Below w.heap.size w w' := by
 have hu64 := Tryd.underlying64; have HR0_2 := am hr0_2; have HC0_2 := am hc0_2; clear hr0_2 hc0_2; have HR0_3 := am hr0_3; have HC0_3 := am hc0_3; clear hr0_3 hc0_3; have HB := am (Below.refl w.heap.size w); have H : ((ze0.f k a0_0 a0_1 l0_2 l0_3).bind fun t992 => (if 0 ≤ a0_1 then (if a0_1 < (t992.length : Int) then (if (rd t992 a0_1) < 0 then (some (([] : List ByteArray), 6)) else (if (rd t992 a0_1) > 40 then (some (([] : List ByteArray), 3)) else (zk0.l0 k t992 ([] : List Int) a0_1 a0_0 a0_1 l0_2 l0_3))) else (none)) else (none))) = some (r1, r2) := h; clear h; obtain ⟨t992, A20, H⟩ := oB H; replace H : (if 0 ≤ a0_1 then (if a0_1 < (t992.length : Int) then (if (rd t992 a0_1) < 0 then (some (([] : List ByteArray), 6)) else (if (rd t992 a0_1) > 40 then (some (([] : List ByteArray), 3)) else (zk0.l0 k t992 ([] : List Int) a0_1 a0_0 a0_1 l0_2 l0_3))) else (none)) else (none)) = some (r1, r2) := H; have A2 := am A20; clear A20; by_cases c3 : 0 ≤ a0_1
 ·rw [if_pos c3] at H; have c3b0 := decide_eq_true c3; clear c3; by_cases c4 : a0_1 < (t992.length : Int)
  ·rw [if_pos c4] at H; have c4b0 := decide_eq_true c4; clear c4; by_cases c5 : (rd t992 a0_1) < 0
   ·rw [if_pos c5] at H; have c5b0 := decide_eq_true c5; clear c5; simp only [Option.some.injEq, Prod.mk.injEq] at H; obtain ⟨rfl, rfl⟩ := H; go_enter Tryd.func103, Tryd.ntmps103
    go_wp2_with (first | ((with_reducible refine yi0 (N := 1) rfl ?_); refine boxA 1 #[.int .i64 a0_0, .int .i64 a0_1, .slice A0_2 l0_2.length c0_2, .slice A0_3 l0_3.length c0_3] 64 rfl rfl (h := ?_); intro gb991 hg w6 hbox hb; have BK991 := am (hbox); have GW991 := am ((by rw [hg]; exact (zm0 (tB)) : w.heap.size ≤ gb991)); have GE991 := am ((by rw [hg]; exact (zm0 (tB)) : w.heap.size ≤ gb991)); replace HB := am (zr0 (tB) hb); clear hb hbox hg; obtain ⟨hcz7_0, hcz7_1, hcz7_2, hcz7_3⟩ := bc4 BK991.out; have hfz7_0 := zb0 BK991.out 0; have hfz7_1 := zb0 BK991.out 1; have hfz7_2 := zb0 BK991.out 2; have hfz7_3 := zb0 BK991.out 3) | (go_at_call 134; (with_reducible refine (ze0.calls k a0_0 a0_1 _ _ l0_2 _ _ l0_3 t992 _ ?side1 ?side2 ?side3 ?side4 A2.out).mono ?_); (case side1 => exact tC (Kd.zv0 HR0_2.out HB.out)); (case side2 => exact HC0_2.out); (case side3 => exact tC (Kd.zv0 HR0_3.out HB.out)); (case side4 => exact HC0_3.out); rintro e w8 ⟨v993, rfl, ho0, hb⟩; have HO994 := am (Kd.yx0 ho0 (zm0 (tB))); replace BK991 := am (bkb BK991.out hb); replace HB := am (zr0 (tB) hb); (try clear hb); (try clear hb2); (try clear hk); (try clear hi); (try clear ho0); obtain ⟨hcz9_0, hcz9_1, hcz9_2, hcz9_3⟩ := bc4 BK991.out; have hfz9_0 := zb0 BK991.out 0; have hfz9_1 := zb0 BK991.out 1; have hfz9_2 := zb0 BK991.out 2; have hfz9_3 := zb0 BK991.out 3; obtain ⟨Ao10, co10, eo10⟩ := Kd.zq0 HO994.out; subst eo10; have p995 : 0 ≤ (a0_1 : Int) := oA; have q995 : a0_1 < (t992.length : Int) := oA; obtain ⟨ad995, e995, hx995_0⟩ := Kd.yk0 (Kd.zt0 HO994.out).2.2 a0_1 p995 q995; cases e995; replace p995 := eq_true p995; replace q995 := eq_true q995) | go_quiet (fail))
    go_ret2; exact ⟨_, tE, by first | exact Kd.zm1 _ _ _ _ _ | exact Kd.yg3 _ _ _ _ _ | exact Kd.yb3 _ _ _ _ _ | exact Kd.ye3 _ _ _ _ _ | exact Kd.jr1 _ _ _ _ _, tB⟩
   ·rw [if_neg c5] at H; have c5b0 := decide_eq_false c5; clear c5; by_cases c11 : (rd t992 a0_1) > 40
    ·rw [if_pos c11] at H; have c11b0 : decide (40 < (rd t992 a0_1)) = true := decide_eq_true c11; clear c11; simp only [Option.some.injEq, Prod.mk.injEq] at H; obtain ⟨rfl, rfl⟩ := H; go_enter Tryd.func103, Tryd.ntmps103
     go_wp2_with (first | ((with_reducible refine yi0 (N := 1) rfl ?_); refine boxA 1 #[.int .i64 a0_0, .int .i64 a0_1, .slice A0_2 l0_2.length c0_2, .slice A0_3 l0_3.length c0_3] 64 rfl rfl (h := ?_); intro gb991 hg w12 hbox hb; have BK991 := am (hbox); have GW991 := am ((by rw [hg]; exact (zm0 (tB)) : w.heap.size ≤ gb991)); have GE991 := am ((by rw [hg]; exact (zm0 (tB)) : w.heap.size ≤ gb991)); replace HB := am (zr0 (tB) hb); clear hb hbox hg; obtain ⟨hcz13_0, hcz13_1, hcz13_2, hcz13_3⟩ := bc4 BK991.out; have hfz13_0 := zb0 BK991.out 0; have hfz13_1 := zb0 BK991.out 1; have hfz13_2 := zb0 BK991.out 2; have hfz13_3 := zb0 BK991.out 3) | (go_at_call 134; (with_reducible refine (ze0.calls k a0_0 a0_1 _ _ l0_2 _ _ l0_3 t992 _ ?side1 ?side2 ?side3 ?side4 A2.out).mono ?_); (case side1 => exact tC (Kd.zv0 HR0_2.out HB.out)); (case side2 => exact HC0_2.out); (case side3 => exact tC (Kd.zv0 HR0_3.out HB.out)); (case side4 => exact HC0_3.out); rintro e w14 ⟨v993, rfl, ho0, hb⟩; have HO994 := am (Kd.yx0 ho0 (zm0 (tB))); replace BK991 := am (bkb BK991.out hb); replace HB := am (zr0 (tB) hb); (try clear hb); (try clear hb2); (try clear hk); (try clear hi); (try clear ho0); obtain ⟨hcz15_0, hcz15_1, hcz15_2, hcz15_3⟩ := bc4 BK991.out; have hfz15_0 := zb0 BK991.out 0; have hfz15_1 := zb0 BK991.out 1; have hfz15_2 := zb0 BK991.out 2; have hfz15_3 := zb0 BK991.out 3; obtain ⟨Ao16, co16, eo16⟩ := Kd.zq0 HO994.out; subst eo16; have p995 : 0 ≤ (a0_1 : Int) := oA; have q995 : a0_1 < (t992.length : Int) := oA; obtain ⟨ad995, e995, hx995_0⟩ := Kd.yk0 (Kd.zt0 HO994.out).2.2 a0_1 p995 q995; cases e995; replace p995 := eq_true p995; replace q995 := eq_true q995; have p996 : 0 ≤ (a0_1 : Int) := oA; have q996 : a0_1 < (t992.length : Int) := oA; obtain ⟨ad996, e996, hx996_0⟩ := Kd.yk0 (Kd.zt0 HO994.out).2.2 a0_1 p996 q996; obtain rfl : ad995 = ad996 := (by injection e996); replace p996 := eq_true p996; replace q996 := eq_true q996) | go_quiet (fail))
     go_ret2; exact ⟨_, tE, by first | exact Kd.zm1 _ _ _ _ _ | exact Kd.yg3 _ _ _ _ _ | exact Kd.yb3 _ _ _ _ _ | exact Kd.ye3 _ _ _ _ _ | exact Kd.jr1 _ _ _ _ _, tB⟩
    ·rw [if_neg c11] at H; have c11b0 : decide (40 < (rd t992 a0_1)) = false := decide_eq_false c11; clear c11; have H' := am H; clear H; go_enter Tryd.func103, Tryd.ntmps103
     go_wp2_with (first | ((with_reducible refine yi0 (N := 1) rfl ?_); refine boxA 1 #[.int .i64 a0_0, .int .i64 a0_1, .slice A0_2 l0_2.length c0_2, .slice A0_3 l0_3.length c0_3] 64 rfl rfl (h := ?_); intro gb991 hg w17 hbox hb; have BK991 := am (hbox); have GW991 := am ((by rw [hg]; exact (zm0 (tB)) : w.heap.size ≤ gb991)); have GE991 := am ((by rw [hg]; exact (zm0 (tB)) : w.heap.size ≤ gb991)); replace HB := am (zr0 (tB) hb); clear hb hbox hg; obtain ⟨hcz18_0, hcz18_1, hcz18_2, hcz18_3⟩ := bc4 BK991.out; have hfz18_0 := zb0 BK991.out 0; have hfz18_1 := zb0 BK991.out 1; have hfz18_2 := zb0 BK991.out 2; have hfz18_3 := zb0 BK991.out 3) | (go_at_call 134; (with_reducible refine (ze0.calls k a0_0 a0_1 _ _ l0_2 _ _ l0_3 t992 _ ?side1 ?side2 ?side3 ?side4 A2.out).mono ?_); (case side1 => exact tC (Kd.zv0 HR0_2.out HB.out)); (case side2 => exact HC0_2.out); (case side3 => exact tC (Kd.zv0 HR0_3.out HB.out)); (case side4 => exact HC0_3.out); rintro e w19 ⟨v993, rfl, ho0, hb⟩; have HO994 := am (Kd.yx0 ho0 (zm0 (tB))); replace BK991 := am (bkb BK991.out hb); replace HB := am (zr0 (tB) hb); (try clear hb); (try clear hb2); (try clear hk); (try clear hi); (try clear ho0); obtain ⟨hcz20_0, hcz20_1, hcz20_2, hcz20_3⟩ := bc4 BK991.out; have hfz20_0 := zb0 BK991.out 0; have hfz20_1 := zb0 BK991.out 1; have hfz20_2 := zb0 BK991.out 2; have hfz20_3 := zb0 BK991.out 3; obtain ⟨Ao21, co21, eo21⟩ := Kd.zq0 HO994.out; subst eo21; have p995 : 0 ≤ (a0_1 : Int) := oA; have q995 : a0_1 < (t992.length : Int) := oA; obtain ⟨ad995, e995, hx995_0⟩ := Kd.yk0 (Kd.zt0 HO994.out).2.2 a0_1 p995 q995; cases e995; replace p995 := eq_true p995; replace q995 := eq_true q995; have p996 : 0 ≤ (a0_1 : Int) := oA; have q996 : a0_1 < (t992.length : Int) := oA; obtain ⟨ad996, e996, hx996_0⟩ := Kd.yk0 (Kd.zt0 HO994.out).2.2 a0_1 p996 q996; obtain rfl : ad995 = ad996 := (by injection e996); replace p996 := eq_true p996; replace q996 := eq_true q996) | go_quiet (fail))
     go_loopg [5, 6] k (fun kq v5 v6 w' => ∃ (x5_1 : List Int) (x6_1 : Int), v6 = .int .i64 x6_1 ∧ zd0 (zk0.l0 kq t992 x5_1 x6_1 a0_0 a0_1 l0_2 l0_3 = some (r1, r2)) ∧ zd0 (kq ≤ k) ∧ zd0 (Kd.R (Kd.int .i64) 3 w' w.heap.size (fun k_ => some k_ ≠ (v5 : Value).ownBlock) (.slice (some ad995) t992.length co21) t992) ∧ zd0 (Kd.R (Kd.int .i64) 3 w' w.heap.size (fun k_ => some k_ ≠ ((.slice (some ad995) t992.length co21) : Value).ownBlock) v5 x5_1) ∧ zd0 (w'.heap[gb991]? = some (.cells #[.int .i64 a0_0, .int .i64 a0_1, (.slice A0_2 l0_2.length c0_2), (.slice A0_3 l0_3.length c0_3)] 64 (0, 0))) ∧ zd0 (Below w.heap.size w w'))
     case atStart => exact ⟨(([] : List Int)), (a0_1), (tF), H', ⟨Nat.le_refl _⟩, ⟨by refine tR ?_; exact Kd.yl0 HO994.out (fun _ hk => (by simp [Value.ownBlock]))⟩, ⟨by first | exact Kd.zm1 _ _ _ _ _ | exact Kd.yg3 _ _ _ _ _ | exact Kd.yb3 _ _ _ _ _ | exact Kd.ye3 _ _ _ _ _ | exact Kd.jr1 _ _ _ _ _⟩, ⟨by refine tBk ?_; exact BK991.out⟩, ⟨tB⟩⟩
     case round =>
      clear H'
      try clear c1; try clear p2; try clear c3; try clear c3b0; try clear c4; try clear c4b0; try clear c5; try clear c5b0; try clear p9; try clear q9; try clear hx9; try clear c10; try clear c11; try clear c11b0; try clear hcz13_0; try clear hcz13_1; try clear hcz13_2; try clear hcz13_3; try clear hcz15_0; try clear hcz15_1; try clear hcz15_2; try clear hcz15_3; try clear hcz18_0; try clear hcz18_1; try clear hcz18_2; try clear hcz18_3; try clear hcz20_0; try clear hcz20_1; try clear hcz20_2; try clear hcz20_3; try clear hcz7_0; try clear hcz7_1; try clear hcz7_2; try clear hcz7_3; try clear hcz9_0; try clear hcz9_1; try clear hcz9_2; try clear hcz9_3; try clear hfz13_0; try clear hfz13_1; try clear hfz13_2; try clear hfz13_3; try clear hfz15_0; try clear hfz15_1; try clear hfz15_2; try clear hfz15_3; try clear hfz18_0; try clear hfz18_1; try clear hfz18_2; try clear hfz18_3; try clear hfz20_0; try clear hfz20_1; try clear hfz20_2; try clear hfz20_3; try clear hfz7_0; try clear hfz7_1; try clear hfz7_2; try clear hfz7_3; try clear hfz9_0; try clear hfz9_1; try clear hfz9_2; try clear hfz9_3; try clear hx995_0; try clear hx996_0; try clear p995; try clear p996; try clear q995; try clear q996
      obtain ⟨x5_1, x6_1, rfl, HA, HK1, HO_4, HO_5, BK991, HB⟩ := hrel
      cases gk with
      | zero => exact absurd HA.out (by simp [zk0.l0])
      | succ k1 =>
       have H := HA.out; clear HA; simp only [zk0.l0] at H; by_cases c22 : 0 ≤ x6_1
       ·rw [if_pos c22] at H; have c22b0 := decide_eq_true c22; clear c22; by_cases c23 : x6_1 < (t992.length : Int)
        ·rw [if_pos c23] at H; have c23b0 := decide_eq_true c23; clear c23; by_cases c24 : (rd t992 x6_1) > 0
         ·rw [if_pos c24] at H; have c24b0 : decide (0 < (rd t992 x6_1)) = true := decide_eq_true c24; clear c24; have H' := am H; clear H; have p997 : 0 ≤ (x6_1 : Int) := oA; have q997 : x6_1 < (t992.length : Int) := oA; obtain ⟨ad997, e997, hx997_0⟩ := Kd.yk0 (Kd.zt0 HO_4.out).2.2 x6_1 p997 q997; obtain rfl : ad995 = ad997 := (by injection e997); replace p997 := eq_true p997; replace q997 := eq_true q997; go_wp2
          repeat (go_quiet (fail); try go_wp2)
          go_loopg [7] k1 (fun kq v7 w' => ∃ (x7_2 : Int), v7 = .int .i64 x7_2 ∧ zd0 (zk0.l1 kq t992 x5_1 x6_1 x7_2 a0_0 a0_1 l0_2 l0_3 = some (r1, r2)) ∧ zd0 (kq ≤ k1) ∧ zd0 (Kd.R (Kd.int .i64) 3 w' w.heap.size (fun k_ => some k_ ≠ (u5 : Value).ownBlock) (.slice (some ad995) t992.length co21) t992) ∧ zd0 (Kd.R (Kd.int .i64) 3 w' w.heap.size (fun k_ => some k_ ≠ ((.slice (some ad995) t992.length co21) : Value).ownBlock) u5 x5_1) ∧ zd0 (w'.heap[gb991]? = some (.cells #[.int .i64 a0_0, .int .i64 a0_1, (.slice A0_2 l0_2.length c0_2), (.slice A0_3 l0_3.length c0_3)] 64 (0, 0))) ∧ zd0 (Below w.heap.size w w'))
          case atStart => exact ⟨(0), (tF), H', ⟨Nat.le_refl _⟩, ⟨by refine tR ?_; exact HO_4.out⟩, ⟨by refine tR ?_; exact HO_5.out⟩, ⟨by refine tBk ?_; exact BK991.out⟩, ⟨tB⟩⟩
          case round =>
           clear H'
           try clear c1; try clear c2; try clear p2; try clear c3; try clear c3b0; try clear c4; try clear c4b0; try clear c5; try clear c5b0; try clear p9; try clear q9; try clear hx9; try clear c10; try clear c11; try clear c11b0; try clear c22; try clear c22b0; try clear c23; try clear c23b0; try clear c24; try clear c24b0; try clear hcz13_0; try clear hcz13_1; try clear hcz13_2; try clear hcz13_3; try clear hcz15_0; try clear hcz15_1; try clear hcz15_2; try clear hcz15_3; try clear hcz18_0; try clear hcz18_1; try clear hcz18_2; try clear hcz18_3; try clear hcz20_0; try clear hcz20_1; try clear hcz20_2; try clear hcz20_3; try clear hcz7_0; try clear hcz7_1; try clear hcz7_2; try clear hcz7_3; try clear hcz9_0; try clear hcz9_1; try clear hcz9_2; try clear hcz9_3; try clear hfz13_0; try clear hfz13_1; try clear hfz13_2; try clear hfz13_3; try clear hfz15_0; try clear hfz15_1; try clear hfz15_2; try clear hfz15_3; try clear hfz18_0; try clear hfz18_1; try clear hfz18_2; try clear hfz18_3; try clear hfz20_0; try clear hfz20_1; try clear hfz20_2; try clear hfz20_3; try clear hfz7_0; try clear hfz7_1; try clear hfz7_2; try clear hfz7_3; try clear hfz9_0; try clear hfz9_1; try clear hfz9_2; try clear hfz9_3; try clear hx995_0; try clear hx996_0; try clear hx997_0; try clear p2; try clear p9; try clear p995; try clear p996; try clear p997; try clear q9; try clear q995; try clear q996; try clear q997
           obtain ⟨x7_2, rfl, HA, HK2, HO_4, HO_5, BK991, HB⟩ := hrel
           cases gk with
           | zero => exact absurd HA.out (by simp [zk0.l1])
           | succ k2 =>
            have H := HA.out; clear HA; simp only [zk0.l1] at H; by_cases c25 : 0 ≤ x6_1
            ·rw [if_pos c25] at H; have c25b0 := decide_eq_true c25; clear c25; by_cases c26 : x6_1 < (l0_3.length : Int)
             ·rw [if_pos c26] at H; have c26b0 := decide_eq_true c26; clear c26; by_cases c27 : 0 ≤ x7_2
              ·rw [if_pos c27] at H; have c27b0 := decide_eq_true c27; clear c27; by_cases c28 : x7_2 < ((rd_L6 l0_3 x6_1).length : Int)
               ·rw [if_pos c28] at H; have c28b0 := decide_eq_true c28; clear c28; by_cases c29 : 0 ≤ (rd (rd_L6 l0_3 x6_1) x7_2)
                ·rw [if_pos c29] at H; have c29b0 := decide_eq_true c29; clear c29; by_cases c30 : (rd (rd_L6 l0_3 x6_1) x7_2) < (t992.length : Int)
                 ·rw [if_pos c30] at H; have c30b0 := decide_eq_true c30; clear c30; by_cases c31 : x6_1 < (t992.length : Int)
                  ·rw [if_pos c31] at H; have c31b0 := decide_eq_true c31; clear c31; by_cases c32 : (rd t992 (rd (rd_L6 l0_3 x6_1) x7_2)) = (wrap64 ((rd t992 x6_1) - 1))
                   ·rw [if_pos c32] at H; have c32b0 : ((rd t992 (rd (rd_L6 l0_3 x6_1) x7_2)) == (wrap64 ((rd t992 x6_1) - 1))) = true := beq_iff_eq.mpr c32; have c32b1 : ((rd t992 (rd (rd_L6 l0_3 x6_1) x7_2)) != (wrap64 ((rd t992 x6_1) - 1))) = false := bne_eq_false_iff_eq.mpr c32; clear c32; by_cases c33 : x5_1.length < 17592186044416
                    ·rw [if_pos c33] at H; have LMc33 := am c33; clear c33; obtain ⟨y1006, hy1006⟩ : ∃ y_ : List Int, y_ = (x5_1 ++ [x7_2]) := ⟨_, rfl⟩; replace H : (zk0.l0 k2 t992 y1006 (rd (rd_L6 l0_3 x6_1) x7_2) a0_0 a0_1 l0_2 l0_3) = some (r1, r2) := tY hy1006 H; have Ny1006 := am hy1006; clear hy1006; have H' := am H; clear H; obtain ⟨hcz34_0, hcz34_1, hcz34_2, hcz34_3⟩ := bc4 BK991.out; obtain ⟨hfz34_0, hfz34_1, hfz34_2, hfz34_3⟩ := bf4 BK991.out; have p1002 : 0 ≤ (x6_1 : Int) := oA; have q1002 : x6_1 < (l0_3.length : Int) := oA; obtain ⟨ad1002, A1002_0, c1002_0, e1002, hx1002_0, hl1002_0, hi1002_0⟩ := ze4 HR0_3.out x6_1 p1002 q1002; cases e1002; replace hx1002_0 := (HB.out.cell (World.block_lt_of_cell? w _ hx1002_0)).trans hx1002_0; have HR1002_0 := am hi1002_0; have HC1002_0 := am hl1002_0; clear hi1002_0 hl1002_0; replace p1002 := eq_true p1002; replace q1002 := eq_true q1002; have p1003 : 0 ≤ (x7_2 : Int) := oA; have q1003 : x7_2 < ((rd_L6 l0_3 x6_1).length : Int) := oA; obtain ⟨ad1003, e1003, hx1003_0⟩ := Kd.yk0 HR1002_0.out x7_2 p1003 q1003; cases e1003; replace hx1003_0 := (HB.out.cell (World.block_lt_of_cell? w _ hx1003_0)).trans hx1003_0; replace p1003 := eq_true p1003; replace q1003 := eq_true q1003; have p1004 : 0 ≤ ((rd (rd_L6 l0_3 x6_1) x7_2) : Int) := oA; have q1004 : (rd (rd_L6 l0_3 x6_1) x7_2) < (t992.length : Int) := oA; obtain ⟨ad1004, e1004, hx1004_0⟩ := Kd.yk0 (Kd.zt0 HO_4.out).2.2 (rd (rd_L6 l0_3 x6_1) x7_2) p1004 q1004; obtain rfl : ad995 = ad1004 := (by injection e1004); replace p1004 := eq_true p1004; replace q1004 := eq_true q1004; have p1005 : 0 ≤ (x6_1 : Int) := oA; have q1005 : x6_1 < (t992.length : Int) := oA; obtain ⟨ad1005, e1005, hx1005_0⟩ := Kd.yk0 (Kd.zt0 HO_4.out).2.2 x6_1 p1005 q1005; obtain rfl : ad995 = ad1005 := (by injection e1005); replace p1005 := eq_true p1005; replace q1005 := eq_true q1005
                     go_wp2_with (first | ((with_reducible refine yf0 (b := .append) (xs := #[.tmp 50, .tmp 52]) rfl ?_); at_builtin; refine Kd.xk0 (Kd.int .i64) (w0 := w) w.heap.size rfl (.tmp 50) (.tmp 52) 81 3 (.int .i64 0) 8 rfl Tryd.underlying81 info3 rfl (by decide) (by omega) u5 x5_1 x7_2 [.int .i64 x7_2] (fun k_ => some k_ ≠ (.slice (some ad995) t992.length co21 : Value).ownBlock) (fun _ => False) rfl rfl ?aP (fun _ hk => hk.elim) ?aF ?aO ?aB ?aS ?aL ?_; (case aP => exact rfl); (case aB => exact (tB)); (case aF => exact (fun k_ hk => Kd.fresh' (Kd.R_lt (tR HO_4.out)) k_ hk)); (case aO => exact (tR HO_5.out)); (case aS => exact (zm0 (tB))); (case aL => have := LMc33.out; omega); intro v1007 w35 ho hb hg hat; rw [← Ny1006.out] at ho; replace HO_4 := am (Kd.zw1 (ok := (fun _ => True)) (by refine tR ?_; exact Kd.yl0 HO_4.out (fun _ hk => ⟨trivial, hk⟩)) hg hat); replace BK991 := am (xx0 (g := gb991) (o := .cells #[.int .i64 a0_0, .int .i64 a0_1, .slice A0_2 l0_2.length c0_2, .slice (some ad1002) l0_3.length c0_3] 64 (0, 0)) (tBk BK991.out) hg (Kd.R_ne HO_5.out BK991.out (by decide))); replace HB := am (hb); have HO1008 := am (ho); clear HO_5; clear ho hb hg hat; obtain ⟨hcz36_0, hcz36_1, hcz36_2, hcz36_3⟩ := bc4 BK991.out; have hfz36_0 := zb0 BK991.out 0; have hfz36_1 := zb0 BK991.out 1; have hfz36_2 := zb0 BK991.out 2; have hfz36_3 := zb0 BK991.out 3; have p1009 : 0 ≤ (x6_1 : Int) := oA; have q1009 : x6_1 < (l0_3.length : Int) := oA; obtain ⟨ad1009, A1009_0, c1009_0, e1009, hx1009_0, hl1009_0, hi1009_0⟩ := ze4 HR0_3.out x6_1 p1009 q1009; obtain rfl : ad1002 = ad1009 := (by injection e1009); replace hx1009_0 := (HB.out.cell (World.block_lt_of_cell? w _ hx1009_0)).trans hx1009_0; have HR1009_0 := am hi1009_0; have HC1009_0 := am hl1009_0; clear hi1009_0 hl1009_0; replace p1009 := eq_true p1009; replace q1009 := eq_true q1009; have p1010 : 0 ≤ (x7_2 : Int) := oA; have q1010 : x7_2 < ((rd_L6 l0_3 x6_1).length : Int) := oA; obtain ⟨ad1010, e1010, hx1010_0⟩ := Kd.yk0 HR1009_0.out x7_2 p1010 q1010; cases e1010; replace hx1010_0 := (HB.out.cell (World.block_lt_of_cell? w _ hx1010_0)).trans hx1010_0; replace p1010 := eq_true p1010; replace q1010 := eq_true q1010) | go_quiet (fail))
                     go_roundg k2
                     case measure => have := HK1.out; have := HK2.out; omega
                     case rel => exact ⟨(y1006), (rd (rd_L6 l0_3 x6_1) x7_2), (tF), H', ⟨by have := HK1.out; have := HK2.out; omega⟩, ⟨by refine tR ?_; exact Kd.yl0 HO_4.out (fun _ hk => hk.2)⟩, ⟨by refine tR ?_; exact HO1008.out⟩, ⟨by refine tBk ?_; exact BK991.out⟩, ⟨tB⟩⟩
                    ·rw [if_neg c33] at H; exact absurd H (by simp)
                   ·rw [if_neg c32] at H; have c32b0 : ((rd t992 (rd (rd_L6 l0_3 x6_1) x7_2)) == (wrap64 ((rd t992 x6_1) - 1))) = false := beq_eq_false_iff_ne.mpr c32; have c32b1 : ((rd t992 (rd (rd_L6 l0_3 x6_1) x7_2)) != (wrap64 ((rd t992 x6_1) - 1))) = true := bne_iff_ne.mpr c32; have H' := am H; clear H; obtain ⟨hcz37_0, hcz37_1, hcz37_2, hcz37_3⟩ := bc4 BK991.out; obtain ⟨hfz37_0, hfz37_1, hfz37_2, hfz37_3⟩ := bf4 BK991.out; have p1002 : 0 ≤ (x6_1 : Int) := oA; have q1002 : x6_1 < (l0_3.length : Int) := oA; obtain ⟨ad1002, A1002_0, c1002_0, e1002, hx1002_0, hl1002_0, hi1002_0⟩ := ze4 HR0_3.out x6_1 p1002 q1002; cases e1002; replace hx1002_0 := (HB.out.cell (World.block_lt_of_cell? w _ hx1002_0)).trans hx1002_0; have HR1002_0 := am hi1002_0; have HC1002_0 := am hl1002_0; clear hi1002_0 hl1002_0; replace p1002 := eq_true p1002; replace q1002 := eq_true q1002; have p1003 : 0 ≤ (x7_2 : Int) := oA; have q1003 : x7_2 < ((rd_L6 l0_3 x6_1).length : Int) := oA; obtain ⟨ad1003, e1003, hx1003_0⟩ := Kd.yk0 HR1002_0.out x7_2 p1003 q1003; cases e1003; replace hx1003_0 := (HB.out.cell (World.block_lt_of_cell? w _ hx1003_0)).trans hx1003_0; replace p1003 := eq_true p1003; replace q1003 := eq_true q1003; have p1004 : 0 ≤ ((rd (rd_L6 l0_3 x6_1) x7_2) : Int) := oA; have q1004 : (rd (rd_L6 l0_3 x6_1) x7_2) < (t992.length : Int) := oA; obtain ⟨ad1004, e1004, hx1004_0⟩ := Kd.yk0 (Kd.zt0 HO_4.out).2.2 (rd (rd_L6 l0_3 x6_1) x7_2) p1004 q1004; obtain rfl : ad995 = ad1004 := (by injection e1004); replace p1004 := eq_true p1004; replace q1004 := eq_true q1004; have p1005 : 0 ≤ (x6_1 : Int) := oA; have q1005 : x6_1 < (t992.length : Int) := oA; obtain ⟨ad1005, e1005, hx1005_0⟩ := Kd.yk0 (Kd.zt0 HO_4.out).2.2 x6_1 p1005 q1005; obtain rfl : ad995 = ad1005 := (by injection e1005); replace p1005 := eq_true p1005; replace q1005 := eq_true q1005; go_wp2
                    repeat (go_quiet (fail); try go_wp2)
                    go_roundg k2
                    case measure => have := HK1.out; have := HK2.out; omega
                    case rel => exact ⟨(wrap64 (x7_2 + 1)), (tF), H', ⟨by have := HK1.out; have := HK2.out; omega⟩, ⟨by refine tR ?_; exact HO_4.out⟩, ⟨by refine tR ?_; exact HO_5.out⟩, ⟨by refine tBk ?_; exact BK991.out⟩, ⟨tB⟩⟩
                  ·rw [if_neg c31] at H; exact absurd H (by simp)
                 ·rw [if_neg c30] at H; exact absurd H (by simp)
                ·rw [if_neg c29] at H; exact absurd H (by simp)
               ·rw [if_neg c28] at H; exact absurd H (by simp)
              ·rw [if_neg c27] at H; exact absurd H (by simp)
             ·rw [if_neg c26] at H; exact absurd H (by simp)
            ·rw [if_neg c25] at H; exact absurd H (by simp)
         ·rw [if_neg c24] at H; have c24b0 : decide (0 < (rd t992 x6_1)) = false := decide_eq_false c24; clear c24; obtain ⟨⟨t998, t999⟩, A380, H⟩ := oB H; replace H : (some (t998, 0)) = some (r1, r2) := H; have A38 := am A380; clear A380; simp only [Option.some.injEq, Prod.mk.injEq] at H; obtain ⟨rfl, rfl⟩ := H; have p997 : 0 ≤ (x6_1 : Int) := oA; have q997 : x6_1 < (t992.length : Int) := oA; obtain ⟨ad997, e997, hx997_0⟩ := Kd.yk0 (Kd.zt0 HO_4.out).2.2 x6_1 p997 q997; obtain rfl : ad995 = ad997 := (by injection e997); replace p997 := eq_true p997; replace q997 := eq_true q997; obtain ⟨hcz39_0, hcz39_1, hcz39_2, hcz39_3⟩ := bc4 BK991.out; obtain ⟨hfz39_0, hfz39_1, hfz39_2, hfz39_3⟩ := bf4 BK991.out; obtain ⟨Ao40, co40, eo40⟩ := Kd.zq0 HO_5.out; subst eo40
          go_wp2_with (first | (go_at_call 135; (with_reducible refine (zo0.calls k1 a0_0 _ _ x5_1 t998 t999 _ ?side1 ?side2 A38.out).mono ?_); (case side1 => exact tC (Kd.zt0 HO_5.out).2.2); (case side2 => exact (Kd.zt0 HO_5.out).2.1); rintro e w41 ⟨v1000, rfl, ho0, hb⟩; replace HO_4 := am (Kd.yo0 (tR HO_4.out) hb); replace HO_5 := am (Kd.yo0 (tR HO_5.out) hb); have HO1001 := am (Kd.yx0 ho0 (zm0 (tB))); replace BK991 := am (bkb BK991.out hb); replace HB := am (zr0 (tB) hb); (try clear hb); (try clear hb2); (try clear hk); (try clear hi); (try clear ho0)) | go_quiet (fail))
          go_ret2; exact ⟨_, tE, by refine tR ?_; exact HO1001.out, tB⟩
        ·rw [if_neg c23] at H; exact absurd H (by simp)
       ·rw [if_neg c22] at H; exact absurd H (by simp)
  ·rw [if_neg c4] at H; exact absurd H (by simp)
 ·rw [if_neg c3] at H; exact absurd H (by simp)
theorem jl1 (w : World) (d : Nat) (a : Option Addr) (l c : Nat) : (Op.equalIn (d + 1) 22 (.slice a l c) (.slice none 0 0)).run Tryd.prog w = .ok a.isNone w := by
 cases a <;> simp [Op.equalIn, run_underlying Tryd.underlying22]
theorem zt2 (w : World) (a : Option Addr) (l c : Nat) : (Op.equal 22 (.slice a l c) (.slice none 0 0)).run Tryd.prog w = .ok a.isNone w := jl1 w 9999 a l c
theorem qv1 (w : World) (a : Option Addr) (l c : Nat) : (binOp .eql 22 (.slice a l c) (.slice none 0 0)).run Tryd.prog w = .ok (.bool a.isNone) w := by
 simp [binOp, zt2 w a l c]
def xb0.f (l0 : List Bool) : Option (List Bool) := if l0.length ≤ 1000000000 then some l0 else none
theorem xb0.calls (A0 : Option Addr) (c0 : Nat) (l0 : List Bool) (r : List Bool) (w : World) (hr0 : Kd.C Kd.bool w A0 l0.length l0) (hc0 : l0.length ≤ c0) (h : xb0.f l0 = some r) :
  Calls Tryd.prog 119 #[.slice A0 l0.length c0] w fun e w' => ∃ v0_ : Value, e = .returned (v0_) ∧ Kd.R Kd.bool 4 w' w.heap.size (fun _ => True) v0_ r ∧ Below w.heap.size w w' := by
 unfold xb0.f at h; by_cases hl : l0.length ≤ 1000000000
 ·rw [if_pos hl] at h; obtain rfl := Option.some.inj h; clear h; have HR0 := am hr0; have HB := am (Below.refl w.heap.size w)
  cases A0 with
  | none =>
   obtain rfl : l0 = [] := by
    cases l0 with
    | nil => rfl
    | cons x t =>
     obtain ⟨ad, e, _⟩ := hr0.2.2 (by simp); cases e
   clear hr0 hl hc0; have hq := fun W' => qv1 W' none 0 c0; simp only [Option.isNone_none] at hq; go_enter Tryd.func119, Tryd.ntmps119; go_wp2; go_ret; exact ⟨_, rfl, Kd.zm1 _ _ _ _ _, by repeat (first | exact HB.out | apply zx0 | apply zg0 | apply ye0)⟩
  | some ad =>
   clear hr0 hc0; have HL := am hl; clear hl; have hq := fun W' => qv1 W' (some ad) l0.length c0; simp only [Option.isNone_some] at hq; go_enter Tryd.func119, Tryd.ntmps119
   go_wp2_with (first | ((with_reducible refine yi0 (N := 5) rfl ?_); refine Kd.kf1 Kd.bool _ 4 ?hg (N := 5) ?hd (xs := ([] : List Bool)) (inner := []) (ok := fun _ => True) (okp := fun _ => True) ?hr ?hp (fun _ hk => hk) trivial (Below.refl _ _) (Nat.le_refl _) (by simp) ?_; (case hd => rfl); (case hg => rfl); (case hr => first | (go_simp; done) | (go_simp; rfl)); (case hp => exact (Reps.none _ _)); intro v255 w2 ho3 hb hg_ hnew_; clear hg_ hnew_; have HO := am (Kd.yx0 ho3 (zm0 (by repeat (first | exact HB.out | apply zx0 | apply zg0 | apply ye0)))); have n1_ := am (zr0 (by repeat (first | exact HB.out | apply zx0 | apply zg0 | apply ye0)) hb); clear HB; have HB := n1_; clear n1_ hb ho3) | ((with_reducible refine yf0 (b := .append) (xs := #[.tmp 5, .tmp 6]) rfl ?_); at_builtin; refine Kd.qm2 Kd.bool (Rr := Kd.bool.K w2) (w0 := w) w.heap.size rfl (.tmp 5) (.tmp 6) 22 4 (.bool false) 1 rfl Tryd.underlying22 yq2 rfl (by decide) (by omega) v255 [] l0 (some ad) l0.length c0 (fun _ => True) (fun k => ¬ (some k = v255.ownBlock)) rfl rfl ?aO ?aR ?aK ?aP (fun _ _ => trivial) ?aB ?aS ?aL ?_; (case aO => exact HO.out); (case aR => exact Kd.zv0 HR0.out HB.out); (case aK => exact (fun x cs hk => hk)); (case aP => exact (fun k hk => ⟨trivial, hk⟩)); (case aB => exact HB.out); (case aS => exact HB.out.size); (case aL => have := HL.out; simp; omega); intro v7 w7 ho hb hg hat; have HO7 := am ho; clear HO; have HO := HO7; clear HO7; clear HB; have HB := am hb; clear hb hg hat ho))
   go_ret; exact ⟨_, rfl, by simpa using HO.out, by repeat (first | exact HB.out | apply zx0 | apply zg0 | apply ye0)⟩
 ·rw [if_neg hl] at h; cases h
end Go.Proofs.YtocfcpicleomcaaDoor.X
