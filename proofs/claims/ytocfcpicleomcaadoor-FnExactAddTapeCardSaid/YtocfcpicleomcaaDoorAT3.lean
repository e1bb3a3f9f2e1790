import Derived.Test.YtocfcpicleomcaaDoorAT2
import Derived.Carry
import Derived.Outline
namespace Go.Proofs.YtocfcpicleomcaaDoor.X
set_option maxHeartbeats 16000000
set_option maxRecDepth 100000
open Go.RowKit Go.Proofs.YtocfcpicleomcaaDoorW.PrintWords Go.Proofs.YtocfcpicleomcaaDoorW.PrintLast Go.Proofs.YtocfcpicleomcaaDoorW.PrintMore
attribute [local go_sem] qr0 qp0 jl0 jk0 qb0 qa0 qq0 qo0
set_option linter.unusedVariables false
set_option linter.unusedSimpArgs false
def laws_toRelation.f (k : Nat) (a0_0 : Int) (a0_1 : Int) (l0_2 : List Bool) (l0_3 : List (List Int)) : Option (Int × Int × List Bool × (List (List Int))) := (laws_toBoolS.f k l0_2).bind fun t178 => ((laws_toInt64SS.f k l0_3).bind fun t181 => (some (a0_0, a0_1, t178, t181)))
theorem laws_toRelation.calls (k : Nat) (a0_0 : Int) (a0_1 : Int) (A0_2 : Option Addr) (c0_2 : Nat) (l0_2 : List Bool) (A0_3 : Option Addr) (c0_3 : Nat) (l0_3 : List (List Int)) (r1 : Int) (r2 : Int) (r3 : List Bool) (r4 : List (List Int)) (w : World) (hr0_2 : Kd.C Kd.bool w A0_2 l0_2.length l0_2) (hc0_2 : l0_2.length ≤ c0_2) (hr0_3 : Kd.C (Kd.slice 2 (Kd.int .i64)) w A0_3 l0_3.length l0_3) (hc0_3 : l0_3.length ≤ c0_3) (h : laws_toRelation.f k a0_0 a0_1 l0_2 l0_3 = some (r1, r2, r3, r4)) :
  Calls Tryd.prog 17 #[.agg #[.int .i64 a0_0, .int .i64 a0_1, .slice A0_2 l0_2.length c0_2, .slice A0_3 l0_3.length c0_3]] w fun e w' => ∃ v2_ v3_ : Value, e = .returned (.agg #[.int .i64 r1, .int .i64 r2, v2_, v3_]) ∧ Kd.R Kd.bool 4 w' w.heap.size (fun _ => True) v2_ r3 ∧ Kd.S (Kd.slice 2 (Kd.int .i64)) 42 w' w.heap.size (fun _ => True) v3_ r4 ∧ Below w.heap.size w w' := by
 have hu25 := Tryd.underlying25; have hu29 := Tryd.underlying29; have HR0_2 := am hr0_2; have HC0_2 := am hc0_2; clear hr0_2 hc0_2; have HR0_3 := am hr0_3; have HC0_3 := am hc0_3; clear hr0_3 hc0_3; have HB := am (Below.refl w.heap.size w); have H : ((laws_toBoolS.f k l0_2).bind fun t178 => ((laws_toInt64SS.f k l0_3).bind fun t181 => (some (a0_0, a0_1, t178, t181)))) = some (r1, r2, r3, r4) := h; clear h; obtain ⟨t178, A20, H⟩ := oB H; replace H : ((laws_toInt64SS.f k l0_3).bind fun t181 => (some (a0_0, a0_1, t178, t181))) = some (r1, r2, r3, r4) := H; have A2 := am A20; clear A20; obtain ⟨t181, A30, H⟩ := oB H; replace H : (some (a0_0, a0_1, t178, t181)) = some (r1, r2, r3, r4) := H; have A3 := am A30; clear A30; simp only [Option.some.injEq, Prod.mk.injEq] at H; obtain ⟨rfl, rfl, rfl, rfl⟩ := H; go_enter Tryd.func17, Tryd.ntmps17
 go_wp2_with (first | ((with_reducible refine yc0 (N := 1) rfl ?_); refine boxA 1 #[.int .i64 a0_0, .int .i64 a0_1, .slice A0_2 l0_2.length c0_2, .slice A0_3 l0_3.length c0_3] 25 rfl rfl (h := ?_); intro gb175 hg w4 hbox hb; have BK175 := am (hbox); have GW175 := am ((by rw [hg]; exact (zh0 (tB)) : w.heap.size ≤ gb175)); have GE175 := am ((by rw [hg]; exact (zh0 (tB)) : w.heap.size ≤ gb175)); replace HB := am (zo0 (tB) hb); clear hb hbox hg) | ((with_reducible refine yc0 (N := 2) rfl ?_); refine boxA 2 #[.int .i64 0, .int .i64 0, .slice none 0 0, .slice none 0 0] 29 rfl rfl (h := ?_); intro gb176 hg w5 hbox hb; have BK176 := am (hbox); have GW176 := am ((by rw [hg]; exact (zh0 (tB)) : w.heap.size ≤ gb176)); have GE176 := am ((by rw [hg]; exact (zh0 (tB)) : w.heap.size ≤ gb176)); have NB175_176 := am ((by rw [hg]; exact Nat.ne_of_lt (bkl BK175.out) : gb175 ≠ gb176)); have NB176_175 := am ((by rw [hg]; exact Nat.ne_of_gt (bkl BK175.out) : gb176 ≠ gb175)); replace BK175 := am (bkb BK175.out hb); replace HB := am (zo0 (tB) hb); clear hb hbox hg) | ((with_reducible refine yc0 (N := 3) rfl ?_); refine boxA 3 #[.int .i64 0, .int .i64 0, .slice none 0 0, .slice none 0 0] 29 rfl rfl (h := ?_); intro gb177 hg w6 hbox hb; have BK177 := am (hbox); have GW177 := am ((by rw [hg]; exact (zh0 (tB)) : w.heap.size ≤ gb177)); have GE177 := am ((by rw [hg]; exact (zh0 (tB)) : w.heap.size ≤ gb177)); have NB175_177 := am ((by rw [hg]; exact Nat.ne_of_lt (bkl BK175.out) : gb175 ≠ gb177)); have NB177_175 := am ((by rw [hg]; exact Nat.ne_of_gt (bkl BK175.out) : gb177 ≠ gb175)); replace BK175 := am (bkb BK175.out hb); have NB176_177 := am ((by rw [hg]; exact Nat.ne_of_lt (bkl BK176.out) : gb176 ≠ gb177)); have NB177_176 := am ((by rw [hg]; exact Nat.ne_of_gt (bkl BK176.out) : gb177 ≠ gb176)); replace BK176 := am (bkb BK176.out hb); replace HB := am (zo0 (tB) hb); clear hb hbox hg; have hnb7 := NB175_176.out; have hnc7 := NB176_175.out; have hnb8 := NB175_177.out; have hnc8 := NB177_175.out; obtain ⟨hcz9_0, hcz9_1, hcz9_2, hcz9_3⟩ := bc4 BK175.out; have hfz9_0 := za0 BK175.out 0; have hfz9_1 := za0 BK175.out 1; have hfz9_2 := za0 BK175.out 2; have hfz9_3 := za0 BK175.out 3; have hnb10 := NB177_176.out; have hnc10 := NB176_177.out; obtain ⟨hcz11_0, hcz11_1, hcz11_2, hcz11_3⟩ := bc4 BK177.out; have hfz11_0 := za0 BK177.out 0; have hfz11_1 := za0 BK177.out 1; have hfz11_2 := za0 BK177.out 2; have hfz11_3 := za0 BK177.out 3) | ((with_reducible refine zu0 (f := 55) rfl ?_); refine goesLA (some 12) Tryd.func55 #[.slice A0_2 l0_2.length c0_2] rfl rfl rfl (h := ?_); (with_reducible refine (laws_toBoolS.calls k _ _ l0_2 t178 _ ?side1 ?side2 A2.out).mono ?_); (case side1 => exact Kd.zn0 HR0_2.out (tB)); (case side2 => exact HC0_2.out); rintro e w12 ⟨v179, rfl, ho0, hb⟩; refine ⟨_, rfl, ?_⟩; have HO180 := am (Kd.yw0 ho0 (zh0 (tB))); replace BK175 := am (ze0 (g := gb175) (o := .cells #[.int .i64 a0_0, .int .i64 a0_1, .slice A0_2 l0_2.length c0_2, .slice A0_3 l0_3.length c0_3] 25 (0, 0)) (by refine tBk ?_; refine yo0 ?_ NB175_177.out _; refine tBk ?_; refine yo0 ?_ NB175_177.out _; refine tBk ?_; exact BK175.out) hb); replace BK176 := am (ze0 (g := gb176) (o := .cells #[.int .i64 0, .int .i64 0, .slice none 0 0, .slice none 0 0] 29 (0, 0)) (by refine tBk ?_; refine yo0 ?_ NB176_177.out _; refine tBk ?_; refine yo0 ?_ NB176_177.out _; refine tBk ?_; exact BK176.out) hb); replace BK177 := am (ze0 (g := gb177) (o := .cells #[.int .i64 a0_0, .int .i64 a0_1, .slice none 0 0, .slice none 0 0] 29 (0, 0)) (by refine tBk ?_; refine zy0 (cs := #[.int .i64 a0_0, .int .i64 0, .slice none 0 0, .slice none 0 0]) ?_ 1 _ rfl; refine tBk ?_; refine zy0 (cs := #[.int .i64 0, .int .i64 0, .slice none 0 0, .slice none 0 0]) ?_ 0 _ rfl; refine tBk ?_; exact BK177.out) hb); replace HB := am (zo0 (tB) hb); (try clear hb); (try clear hb2); (try clear hk); (try clear hi); (try clear ho0); obtain ⟨Ao13, co13, eo13⟩ := Kd.zm0 HO180.out; subst eo13; obtain ⟨hcz14_0, hcz14_1, hcz14_2, hcz14_3⟩ := bc4 BK177.out; have hfz14_0 := za0 BK177.out 0; have hfz14_1 := za0 BK177.out 1; have hfz14_2 := za0 BK177.out 2; have hfz14_3 := za0 BK177.out 3; obtain ⟨hcz15_0, hcz15_1, hcz15_2, hcz15_3⟩ := bc4 BK175.out; have hfz15_0 := za0 BK175.out 0; have hfz15_1 := za0 BK175.out 1; have hfz15_2 := za0 BK175.out 2; have hfz15_3 := za0 BK175.out 3) | ((with_reducible refine zu0 (f := 56) rfl ?_); refine goesLA (some 16) Tryd.func56 #[.slice A0_3 l0_3.length c0_3] rfl rfl rfl (h := ?_); (with_reducible refine (laws_toInt64SS.calls k _ _ l0_3 t181 _ ?side1 ?side2 A3.out).mono ?_); (case side1 => exact Kd.zn0 HR0_3.out (tB)); (case side2 => exact HC0_3.out); rintro e w16 ⟨v182, rfl, ho0, hb⟩; refine ⟨_, rfl, ?_⟩; replace HO180 := am (Kd.yv0 (by refine tR ?_; exact (Kd.R_mono (Kd.R_far (p := ⟨gb177, 2, none⟩) (Kd.qe0 HO180.out BK177.out (by decide)) (fun _ hk => hk.2) (.slice Ao13 t178.length co13)) (fun _ h_ => h_.1))) hb); have HO183 := am (Kd.xw0 ho0 (zh0 (tB))); replace BK175 := am (ze0 (g := gb175) (o := .cells #[.int .i64 a0_0, .int .i64 a0_1, .slice A0_2 l0_2.length c0_2, .slice A0_3 l0_3.length c0_3] 25 (0, 0)) (by refine tBk ?_; refine yo0 ?_ NB175_177.out _; refine tBk ?_; exact BK175.out) hb); replace BK176 := am (ze0 (g := gb176) (o := .cells #[.int .i64 0, .int .i64 0, .slice none 0 0, .slice none 0 0] 29 (0, 0)) (by refine tBk ?_; refine yo0 ?_ NB176_177.out _; refine tBk ?_; exact BK176.out) hb); replace BK177 := am (ze0 (g := gb177) (o := .cells #[.int .i64 a0_0, .int .i64 a0_1, .slice Ao13 t178.length co13, .slice none 0 0] 29 (0, 0)) (by refine tBk ?_; refine zy0 (cs := #[.int .i64 a0_0, .int .i64 a0_1, .slice none 0 0, .slice none 0 0]) ?_ 2 _ rfl; refine tBk ?_; exact BK177.out) hb); replace HB := am (zo0 (tB) hb); (try clear hb); (try clear hb2); (try clear hk); (try clear hi); (try clear ho0); obtain ⟨Ao17, co17, eo17⟩ := Kd.yp0 HO183.out; subst eo17; obtain ⟨hcz18_0, hcz18_1, hcz18_2, hcz18_3⟩ := bc4 BK177.out; have hfz18_0 := za0 BK177.out 0; have hfz18_1 := za0 BK177.out 1; have hfz18_2 := za0 BK177.out 2; have hfz18_3 := za0 BK177.out 3; obtain ⟨hcz19_0, hcz19_1, hcz19_2, hcz19_3⟩ := bc4 BK176.out; have hfz19_0 := za0 BK176.out 0; have hfz19_1 := za0 BK176.out 1; have hfz19_2 := za0 BK176.out 2; have hfz19_3 := za0 BK176.out 3))
 refine bodyPost_ret (results_cell_row rfl _ _ gb176 29 #[.int .i64 a0_0, .int .i64 a0_1, .slice Ao13 t178.length co13, .slice Ao17 t181.length co17] (0, 0) _ rfl (by refine tBk ?_; refine zy0 (cs := #[.int .i64 a0_0, .int .i64 a0_1, .slice Ao13 t178.length co13, .slice none 0 0]) ?_ 3 _ rfl; refine tBk ?_; refine zy0 (cs := #[.int .i64 a0_0, .int .i64 a0_1, .slice none 0 0, .slice none 0 0]) ?_ 2 _ rfl; refine tBk ?_; refine zy0 (cs := #[.int .i64 a0_0, .int .i64 0, .slice none 0 0, .slice none 0 0]) ?_ 1 _ rfl; refine tBk ?_; refine zy0 (cs := #[.int .i64 0, .int .i64 0, .slice none 0 0, .slice none 0 0]) ?_ 0 _ rfl; refine tBk ?_; refine yo0 ?_ NB176_177.out _; refine tBk ?_; exact BK176.out) Tryd.underlying29 rfl (by kernel_rfl)) rfl ?_; exact ⟨_, _, tE, by refine tR ?_; exact Kd.R_mono (Kd.R_far (p := ⟨gb176, 3, none⟩) (Kd.R_far (p := ⟨gb176, 2, none⟩) (Kd.R_far (p := ⟨gb176, 1, none⟩) (Kd.R_far (p := ⟨gb176, 0, none⟩) (Kd.R_far (p := ⟨gb177, 3, none⟩) (Kd.qe0 (Kd.qe0 HO180.out BK177.out (by decide)) BK176.out (by decide)) (fun _ hk => hk.1.2) (.slice Ao17 t181.length co17)) (fun _ hk => hk.2) (.int .i64 a0_0)) (fun _ hk => hk.2) (.int .i64 a0_1)) (fun _ hk => hk.2) (.slice Ao13 t178.length co13)) (fun _ hk => hk.2) (.slice Ao17 t181.length co17)) (fun _ hk => trivial), by refine tS ?_; exact Kd.S_mono (Kd.S_far (p := ⟨gb176, 3, none⟩) (Kd.S_far (p := ⟨gb176, 2, none⟩) (Kd.S_far (p := ⟨gb176, 1, none⟩) (Kd.S_far (p := ⟨gb176, 0, none⟩) (Kd.S_far (p := ⟨gb177, 3, none⟩) (Kd.jn0 (Kd.jn0 HO183.out BK177.out (by decide)) BK176.out (by decide)) (fun _ hk => hk.1.2) (.slice Ao17 t181.length co17)) (fun _ hk => hk.2) (.int .i64 a0_0)) (fun _ hk => hk.2) (.int .i64 a0_1)) (fun _ hk => hk.2) (.slice Ao13 t178.length co13)) (fun _ hk => hk.2) (.slice Ao17 t181.length co17)) (fun _ hk => trivial), tB⟩
def laws_eqBoolS.l0 : Nat → List Bool → List Bool → Int → Option (Bool)
 | 0, _, _, _ => none
 | k + 1, x0, x1, x5 => if x5 < (x0.length : Int) then (if 0 ≤ x5 then (if x5 < (x1.length : Int) then (if ((rdOf false x0 x5) != (rdOf false x1 x5)) = true then (some false) else (laws_eqBoolS.l0 k x0 x1 (wrap64 (x5 + 1)))) else (none)) else (none)) else (some true)
def laws_eqBoolS.f (k : Nat) (l0 : List Bool) (l1 : List Bool) : Option (Bool) := if (l0.length : Int) = (l1.length : Int) then (laws_eqBoolS.l0 k l0 l1 0) else (some false)
theorem laws_eqBoolS.calls (k : Nat) (A0 : Option Addr) (c0 : Nat) (l0 : List Bool) (A1 : Option Addr) (c1 : Nat) (l1 : List Bool) (r : Bool) (w : World) (hr0 : Kd.C Kd.bool w A0 l0.length l0) (hc0 : l0.length ≤ c0) (hr1 : Kd.C Kd.bool w A1 l1.length l1) (hc1 : l1.length ≤ c1) (h : laws_eqBoolS.f k l0 l1 = some r) :
  Calls Tryd.prog 60 #[.slice A0 l0.length c0, .slice A1 l1.length c1] w fun e w' => e = .returned (.bool r) ∧ Drawn0 w w' := by
 have HR0 := am hr0; have HC0 := am hc0; clear hr0 hc0; have HR1 := am hr1; have HC1 := am hc1; clear hr1 hc1; have H : (if (l0.length : Int) = (l1.length : Int) then (laws_eqBoolS.l0 k l0 l1 0) else (some false)) = some r := h; clear h; by_cases c3 : (l0.length : Int) = (l1.length : Int)
 ·rw [if_pos c3] at H; have c3b0 : ((l0.length : Int) == (l1.length : Int)) = true := beq_iff_eq.mpr c3; have c3b1 : ((l0.length : Int) != (l1.length : Int)) = false := bne_eq_false_iff_eq.mpr c3
  have c3b2 : (l0.length == l1.length) = true := by first | simpa using c3 | (simp at c3 ⊢; omega)
  clear c3; have H' := am H; clear H; go_enter Tryd.func60, Tryd.ntmps60; go_wp2
  repeat (go_quiet (fail); try go_wp2)
  go_loopg [5] k (fun kq v5 w' => ∃ (x5_1 : Int), v5 = .int .i64 x5_1 ∧ Aside0 (laws_eqBoolS.l0 kq l0 l1 x5_1 = some r) ∧ Aside0 (kq ≤ k) ∧ Drawn0 w w')
  case atStart => exact ⟨(0), (tF), H', ⟨Nat.le_refl _⟩, tD⟩
  case round =>
   clear H'
   try clear c1; try clear p2; try clear c3; try clear c3b0; try clear c3b1; try clear c3b2
   obtain ⟨x5_1, rfl, HA, HK1, ⟨m1, rfl⟩⟩ := hrel
   cases gk with
   | zero => exact absurd HA.out (by simp [laws_eqBoolS.l0])
   | succ k1 =>
    have H := HA.out; clear HA; simp only [laws_eqBoolS.l0] at H; by_cases c4 : x5_1 < (l0.length : Int)
    ·rw [if_pos c4] at H; have c4b0 := decide_eq_true c4; clear c4; by_cases c5 : 0 ≤ x5_1
     ·rw [if_pos c5] at H; have c5b0 := decide_eq_true c5; clear c5; by_cases c6 : x5_1 < (l1.length : Int)
      ·rw [if_pos c6] at H; have c6b0 := decide_eq_true c6; clear c6; by_cases c7 : ((rdOf false l0 x5_1) != (rdOf false l1 x5_1)) = true
       ·rw [if_pos c7] at H; have c7b0 : ((rdOf false l0 x5_1) != (rdOf false l1 x5_1)) = true := c7
        (try (have c7b1 : decide ((rdOf false l0 x5_1) = (rdOf false l1 x5_1)) = false := by simpa using c7))
        (try (have c7b2 : ((rdOf false l0 x5_1) == (rdOf false l1 x5_1)) = false := by simpa using c7))
        (try (have c7b3 : ¬ ((rdOf false l0 x5_1) = (rdOf false l1 x5_1)) := by simpa using c7))
        clear c7; obtain rfl := Option.some.inj H; have p281 : 0 ≤ (x5_1 : Int) := oA; have q281 : x5_1 < (l0.length : Int) := oA; obtain ⟨ad281, e281, hx281_0⟩ := Kd.xv0 HR0.out x5_1 p281 q281; cases e281; replace p281 := eq_true p281; replace q281 := eq_true q281; have p282 : 0 ≤ (x5_1 : Int) := oA; have q282 : x5_1 < (l1.length : Int) := oA; obtain ⟨ad282, e282, hx282_0⟩ := Kd.xv0 HR1.out x5_1 p282 q282; cases e282; replace p282 := eq_true p282; replace q282 := eq_true q282; go_wp2
        repeat (go_quiet (fail); try go_wp2)
        go_ret; exact ⟨tF, tD⟩
       ·rw [if_neg c7] at H; (have c7b0 : ((rdOf false l0 x5_1) != (rdOf false l1 x5_1)) = false := by simpa using c7)
        (try (have c7b1 : decide ((rdOf false l0 x5_1) = (rdOf false l1 x5_1)) = true := by simpa using c7))
        (try (have c7b2 : ((rdOf false l0 x5_1) == (rdOf false l1 x5_1)) = true := by simpa using c7))
        clear c7; have H' := am H; clear H; have p281 : 0 ≤ (x5_1 : Int) := oA; have q281 : x5_1 < (l0.length : Int) := oA; obtain ⟨ad281, e281, hx281_0⟩ := Kd.xv0 HR0.out x5_1 p281 q281; cases e281; replace p281 := eq_true p281; replace q281 := eq_true q281; have p282 : 0 ≤ (x5_1 : Int) := oA; have q282 : x5_1 < (l1.length : Int) := oA; obtain ⟨ad282, e282, hx282_0⟩ := Kd.xv0 HR1.out x5_1 p282 q282; cases e282; replace p282 := eq_true p282; replace q282 := eq_true q282; go_wp2
        repeat (go_quiet (fail); try go_wp2)
        go_roundg k1
        case measure => have := HK1.out; omega
        case rel => exact ⟨(wrap64 (x5_1 + 1)), (tF), H', ⟨by have := HK1.out; omega⟩, tD⟩
      ·rw [if_neg c6] at H; exact absurd H (by simp)
     ·rw [if_neg c5] at H; exact absurd H (by simp)
    ·rw [if_neg c4] at H; have c4b0 := decide_eq_false c4; clear c4; obtain rfl := Option.some.inj H; go_wp2
     repeat (go_quiet (fail); try go_wp2)
     go_ret; exact ⟨tF, tD⟩
 ·rw [if_neg c3] at H; have c3b0 : ((l0.length : Int) == (l1.length : Int)) = false := beq_eq_false_iff_ne.mpr c3; have c3b1 : ((l0.length : Int) != (l1.length : Int)) = true := bne_iff_ne.mpr c3
  have c3b2 : (l0.length == l1.length) = false := by first | simpa using c3 | (simp at c3 ⊢; omega)
  obtain rfl := Option.some.inj H; go_enter Tryd.func60, Tryd.ntmps60; go_wp2
  repeat (go_quiet (fail); try go_wp2)
  go_ret; exact ⟨tF, tD⟩
def laws_eqInt64S.l0 : Nat → List Int → List Int → Int → Option (Bool)
 | 0, _, _, _ => none
 | k + 1, x0, x1, x5 => if x5 < (x0.length : Int) then (if 0 ≤ x5 then (if x5 < (x1.length : Int) then (if (rd x0 x5) = (rd x1 x5) then (laws_eqInt64S.l0 k x0 x1 (wrap64 (x5 + 1))) else (some false)) else (none)) else (none)) else (some true)
def laws_eqInt64S.f (k : Nat) (l0 : List Int) (l1 : List Int) : Option (Bool) := if (l0.length : Int) = (l1.length : Int) then (laws_eqInt64S.l0 k l0 l1 0) else (some false)
theorem laws_eqInt64S.calls (k : Nat) (A0 : Option Addr) (c0 : Nat) (l0 : List Int) (A1 : Option Addr) (c1 : Nat) (l1 : List Int) (r : Bool) (w : World) (hr0 : Kd.C (Kd.int .i64) w A0 l0.length l0) (hc0 : l0.length ≤ c0) (hr1 : Kd.C (Kd.int .i64) w A1 l1.length l1) (hc1 : l1.length ≤ c1) (h : laws_eqInt64S.f k l0 l1 = some r) :
  Calls Tryd.prog 37 #[.slice A0 l0.length c0, .slice A1 l1.length c1] w fun e w' => e = .returned (.bool r) ∧ Drawn0 w w' := by
 have HR0 := am hr0; have HC0 := am hc0; clear hr0 hc0; have HR1 := am hr1; have HC1 := am hc1; clear hr1 hc1; have H : (if (l0.length : Int) = (l1.length : Int) then (laws_eqInt64S.l0 k l0 l1 0) else (some false)) = some r := h; clear h; by_cases c3 : (l0.length : Int) = (l1.length : Int)
 ·rw [if_pos c3] at H; have c3b0 : ((l0.length : Int) == (l1.length : Int)) = true := beq_iff_eq.mpr c3; have c3b1 : ((l0.length : Int) != (l1.length : Int)) = false := bne_eq_false_iff_eq.mpr c3
  have c3b2 : (l0.length == l1.length) = true := by first | simpa using c3 | (simp at c3 ⊢; omega)
  clear c3; have H' := am H; clear H; go_enter Tryd.func37, Tryd.ntmps37; go_wp2
  repeat (go_quiet (fail); try go_wp2)
  go_loopg [5] k (fun kq v5 w' => ∃ (x5_1 : Int), v5 = .int .i64 x5_1 ∧ Aside0 (laws_eqInt64S.l0 kq l0 l1 x5_1 = some r) ∧ Aside0 (kq ≤ k) ∧ Drawn0 w w')
  case atStart => exact ⟨(0), (tF), H', ⟨Nat.le_refl _⟩, tD⟩
  case round =>
   clear H'
   try clear c1; try clear p2; try clear c3; try clear c3b0; try clear c3b1; try clear c3b2
   obtain ⟨x5_1, rfl, HA, HK1, ⟨m1, rfl⟩⟩ := hrel
   cases gk with
   | zero => exact absurd HA.out (by simp [laws_eqInt64S.l0])
   | succ k1 =>
    have H := HA.out; clear HA; simp only [laws_eqInt64S.l0] at H; by_cases c4 : x5_1 < (l0.length : Int)
    ·rw [if_pos c4] at H; have c4b0 := decide_eq_true c4; clear c4; by_cases c5 : 0 ≤ x5_1
     ·rw [if_pos c5] at H; have c5b0 := decide_eq_true c5; clear c5; by_cases c6 : x5_1 < (l1.length : Int)
      ·rw [if_pos c6] at H; have c6b0 := decide_eq_true c6; clear c6; by_cases c7 : (rd l0 x5_1) = (rd l1 x5_1)
       ·rw [if_pos c7] at H; have c7b0 : ((rd l0 x5_1) == (rd l1 x5_1)) = true := beq_iff_eq.mpr c7; have c7b1 : ((rd l0 x5_1) != (rd l1 x5_1)) = false := bne_eq_false_iff_eq.mpr c7; clear c7; have H' := am H; clear H; have p283 : 0 ≤ (x5_1 : Int) := oA; have q283 : x5_1 < (l0.length : Int) := oA; obtain ⟨ad283, e283, hx283_0⟩ := Kd.at_int HR0.out x5_1 p283 q283; cases e283; replace p283 := eq_true p283; replace q283 := eq_true q283; have p284 : 0 ≤ (x5_1 : Int) := oA; have q284 : x5_1 < (l1.length : Int) := oA; obtain ⟨ad284, e284, hx284_0⟩ := Kd.at_int HR1.out x5_1 p284 q284; cases e284; replace p284 := eq_true p284; replace q284 := eq_true q284; go_wp2
        repeat (go_quiet (fail); try go_wp2)
        go_roundg k1
        case measure => have := HK1.out; omega
        case rel => exact ⟨(wrap64 (x5_1 + 1)), (tF), H', ⟨by have := HK1.out; omega⟩, tD⟩
       ·rw [if_neg c7] at H; have c7b0 : ((rd l0 x5_1) == (rd l1 x5_1)) = false := beq_eq_false_iff_ne.mpr c7; have c7b1 : ((rd l0 x5_1) != (rd l1 x5_1)) = true := bne_iff_ne.mpr c7; obtain rfl := Option.some.inj H; have p283 : 0 ≤ (x5_1 : Int) := oA; have q283 : x5_1 < (l0.length : Int) := oA; obtain ⟨ad283, e283, hx283_0⟩ := Kd.at_int HR0.out x5_1 p283 q283; cases e283; replace p283 := eq_true p283; replace q283 := eq_true q283; have p284 : 0 ≤ (x5_1 : Int) := oA; have q284 : x5_1 < (l1.length : Int) := oA; obtain ⟨ad284, e284, hx284_0⟩ := Kd.at_int HR1.out x5_1 p284 q284; cases e284; replace p284 := eq_true p284; replace q284 := eq_true q284; go_wp2
        repeat (go_quiet (fail); try go_wp2)
        go_ret; exact ⟨tF, tD⟩
      ·rw [if_neg c6] at H; exact absurd H (by simp)
     ·rw [if_neg c5] at H; exact absurd H (by simp)
    ·rw [if_neg c4] at H; have c4b0 := decide_eq_false c4; clear c4; obtain rfl := Option.some.inj H; go_wp2
     repeat (go_quiet (fail); try go_wp2)
     go_ret; exact ⟨tF, tD⟩
 ·rw [if_neg c3] at H; have c3b0 : ((l0.length : Int) == (l1.length : Int)) = false := beq_eq_false_iff_ne.mpr c3; have c3b1 : ((l0.length : Int) != (l1.length : Int)) = true := bne_iff_ne.mpr c3
  have c3b2 : (l0.length == l1.length) = false := by first | simpa using c3 | (simp at c3 ⊢; omega)
  obtain rfl := Option.some.inj H; go_enter Tryd.func37, Tryd.ntmps37; go_wp2
  repeat (go_quiet (fail); try go_wp2)
  go_ret; exact ⟨tF, tD⟩
def laws_eqInt64SS.l0 : Nat → List (List Int) → List (List Int) → Int → Option (Bool)
 | 0, _, _, _ => none
 | k + 1, x0, x1, x5 => if x5 < (x0.length : Int) then (if 0 ≤ x5 then (if x5 < (x1.length : Int) then ((laws_eqInt64S.f k (rd_L2 x0 x5) (rd_L2 x1 x5)).bind fun t287 => (if t287 = true then (laws_eqInt64SS.l0 k x0 x1 (wrap64 (x5 + 1))) else (some false))) else (none)) else (none)) else (some true)
def laws_eqInt64SS.f (k : Nat) (l0 : List (List Int)) (l1 : List (List Int)) : Option (Bool) := if (l0.length : Int) = (l1.length : Int) then (laws_eqInt64SS.l0 k l0 l1 0) else (some false)
theorem laws_eqInt64SS.calls (k : Nat) (A0 : Option Addr) (c0 : Nat) (l0 : List (List Int)) (A1 : Option Addr) (c1 : Nat) (l1 : List (List Int)) (r : Bool) (w : World) (hr0 : Kd.C (Kd.slice 2 (Kd.int .i64)) w A0 l0.length l0) (hc0 : l0.length ≤ c0) (hr1 : Kd.C (Kd.slice 2 (Kd.int .i64)) w A1 l1.length l1) (hc1 : l1.length ≤ c1) (h : laws_eqInt64SS.f k l0 l1 = some r) :
  Calls Tryd.prog 61 #[.slice A0 l0.length c0, .slice A1 l1.length c1] w fun e w' => e = .returned (.bool r) ∧ Drawn0 w w' := by
 have HR0 := am hr0; have HC0 := am hc0; clear hr0 hc0; have HR1 := am hr1; have HC1 := am hc1; clear hr1 hc1; have H : (if (l0.length : Int) = (l1.length : Int) then (laws_eqInt64SS.l0 k l0 l1 0) else (some false)) = some r := h; clear h; by_cases c3 : (l0.length : Int) = (l1.length : Int)
 ·rw [if_pos c3] at H; have c3b0 : ((l0.length : Int) == (l1.length : Int)) = true := beq_iff_eq.mpr c3; have c3b1 : ((l0.length : Int) != (l1.length : Int)) = false := bne_eq_false_iff_eq.mpr c3
  have c3b2 : (l0.length == l1.length) = true := by first | simpa using c3 | (simp at c3 ⊢; omega)
  clear c3; have H' := am H; clear H; go_enter Tryd.func61, Tryd.ntmps61; go_wp2
  repeat (go_quiet (fail); try go_wp2)
  go_loopg [5] k (fun kq v5 w' => ∃ (x5_1 : Int), v5 = .int .i64 x5_1 ∧ Aside0 (laws_eqInt64SS.l0 kq l0 l1 x5_1 = some r) ∧ Aside0 (kq ≤ k) ∧ Drawn0 w w')
  case atStart => exact ⟨(0), (tF), H', ⟨Nat.le_refl _⟩, tD⟩
  case round =>
   clear H'
   try clear c1; try clear p2; try clear c3; try clear c3b0; try clear c3b1; try clear c3b2
   obtain ⟨x5_1, rfl, HA, HK1, ⟨m1, rfl⟩⟩ := hrel
   cases gk with
   | zero => exact absurd HA.out (by simp [laws_eqInt64SS.l0])
   | succ k1 =>
    have H := HA.out; clear HA; simp only [laws_eqInt64SS.l0] at H; by_cases c4 : x5_1 < (l0.length : Int)
    ·rw [if_pos c4] at H; have c4b0 := decide_eq_true c4; clear c4; by_cases c5 : 0 ≤ x5_1
     ·rw [if_pos c5] at H; have c5b0 := decide_eq_true c5; clear c5; by_cases c6 : x5_1 < (l1.length : Int)
      ·rw [if_pos c6] at H; have c6b0 := decide_eq_true c6; clear c6; obtain ⟨t287, A70, H⟩ := oB H; replace H : (if t287 = true then (laws_eqInt64SS.l0 k1 l0 l1 (wrap64 (x5_1 + 1))) else (some false)) = some r := H; have A7 := am A70; clear A70; by_cases c8 : t287 = true
       ·subst c8; (have H1 : (laws_eqInt64SS.l0 k1 l0 l1 (wrap64 (x5_1 + 1))) = some r := by rw [if_pos rfl] at H; exact H); clear H; have H := H1; clear H1; have H' := am H; clear H; have p285 : 0 ≤ (x5_1 : Int) := oA; have q285 : x5_1 < (l0.length : Int) := oA; obtain ⟨ad285, A285_0, c285_0, e285, hx285_0, hl285_0, hi285_0⟩ := at_L2 HR0.out x5_1 p285 q285; cases e285; have HR285_0 := am hi285_0; have HC285_0 := am hl285_0; clear hi285_0 hl285_0; replace p285 := eq_true p285; replace q285 := eq_true q285; have p286 : 0 ≤ (x5_1 : Int) := oA; have q286 : x5_1 < (l1.length : Int) := oA; obtain ⟨ad286, A286_0, c286_0, e286, hx286_0, hl286_0, hi286_0⟩ := at_L2 HR1.out x5_1 p286 q286; cases e286; have HR286_0 := am hi286_0; have HC286_0 := am hl286_0; clear hi286_0 hl286_0; replace p286 := eq_true p286; replace q286 := eq_true q286
        go_wp2_with (first | (go_at_call 37; (with_reducible refine (laws_eqInt64S.calls k1 _ _ (rd_L2 l0 x5_1) _ _ (rd_L2 l1 x5_1) true _ ?side1 ?side2 ?side3 ?side4 A7.out).mono ?_); (case side1 => exact tC HR285_0.out); (case side2 => exact HC285_0.out); (case side3 => exact tC HR286_0.out); (case side4 => exact HC286_0.out); rintro e w' ⟨rfl, ⟨nd, rfl⟩⟩; (try first | exact ⟨rfl, _, World.drewN_drewN _ _ _⟩ | exact ⟨rfl, _, Eq.trans (World.drewN_drewN _ _ _) (congrArg (World.drewN _) (Nat.add_assoc _ _ _))⟩)) | go_quiet (first | (go_at_call 37; (with_reducible refine (laws_eqInt64S.calls k1 _ _ (rd_L2 l0 x5_1) _ _ (rd_L2 l1 x5_1) true _ ?side1 ?side2 ?side3 ?side4 A7.out).mono ?_); (case side1 => exact tC HR285_0.out); (case side2 => exact HC285_0.out); (case side3 => exact tC HR286_0.out); (case side4 => exact HC286_0.out); rintro e w' ⟨rfl, ⟨nd, rfl⟩⟩; (try first | exact ⟨rfl, _, World.drewN_drewN _ _ _⟩ | exact ⟨rfl, _, Eq.trans (World.drewN_drewN _ _ _) (congrArg (World.drewN _) (Nat.add_assoc _ _ _))⟩))))
        go_roundg k1
        case measure => have := HK1.out; omega
        case rel => exact ⟨(wrap64 (x5_1 + 1)), (tF), H', ⟨by have := HK1.out; omega⟩, tD⟩
       ·replace c8 := Bool.eq_false_iff.mpr c8; subst c8; (have H1 : (some false) = some r := by rw [if_neg (show ¬ (false = true) by decide)] at H; exact H); clear H; have H := H1; clear H1; obtain rfl := Option.some.inj H; have p285 : 0 ≤ (x5_1 : Int) := oA; have q285 : x5_1 < (l0.length : Int) := oA; obtain ⟨ad285, A285_0, c285_0, e285, hx285_0, hl285_0, hi285_0⟩ := at_L2 HR0.out x5_1 p285 q285; cases e285; have HR285_0 := am hi285_0; have HC285_0 := am hl285_0; clear hi285_0 hl285_0; replace p285 := eq_true p285; replace q285 := eq_true q285; have p286 : 0 ≤ (x5_1 : Int) := oA; have q286 : x5_1 < (l1.length : Int) := oA; obtain ⟨ad286, A286_0, c286_0, e286, hx286_0, hl286_0, hi286_0⟩ := at_L2 HR1.out x5_1 p286 q286; cases e286; have HR286_0 := am hi286_0; have HC286_0 := am hl286_0; clear hi286_0 hl286_0; replace p286 := eq_true p286; replace q286 := eq_true q286
        go_wp2_with (first | (go_at_call 37; (with_reducible refine (laws_eqInt64S.calls k1 _ _ (rd_L2 l0 x5_1) _ _ (rd_L2 l1 x5_1) false _ ?side1 ?side2 ?side3 ?side4 A7.out).mono ?_); (case side1 => exact tC HR285_0.out); (case side2 => exact HC285_0.out); (case side3 => exact tC HR286_0.out); (case side4 => exact HC286_0.out); rintro e w' ⟨rfl, ⟨nd, rfl⟩⟩; (try first | exact ⟨rfl, _, World.drewN_drewN _ _ _⟩ | exact ⟨rfl, _, Eq.trans (World.drewN_drewN _ _ _) (congrArg (World.drewN _) (Nat.add_assoc _ _ _))⟩)) | go_quiet (first | (go_at_call 37; (with_reducible refine (laws_eqInt64S.calls k1 _ _ (rd_L2 l0 x5_1) _ _ (rd_L2 l1 x5_1) false _ ?side1 ?side2 ?side3 ?side4 A7.out).mono ?_); (case side1 => exact tC HR285_0.out); (case side2 => exact HC285_0.out); (case side3 => exact tC HR286_0.out); (case side4 => exact HC286_0.out); rintro e w' ⟨rfl, ⟨nd, rfl⟩⟩; (try first | exact ⟨rfl, _, World.drewN_drewN _ _ _⟩ | exact ⟨rfl, _, Eq.trans (World.drewN_drewN _ _ _) (congrArg (World.drewN _) (Nat.add_assoc _ _ _))⟩))))
        go_ret; exact ⟨tF, tD⟩
      ·rw [if_neg c6] at H; exact absurd H (by simp)
     ·rw [if_neg c5] at H; exact absurd H (by simp)
    ·rw [if_neg c4] at H; have c4b0 := decide_eq_false c4; clear c4; obtain rfl := Option.some.inj H; go_wp2
     repeat (go_quiet (fail); try go_wp2)
     go_ret; exact ⟨tF, tD⟩
 ·rw [if_neg c3] at H; have c3b0 : ((l0.length : Int) == (l1.length : Int)) = false := beq_eq_false_iff_ne.mpr c3; have c3b1 : ((l0.length : Int) != (l1.length : Int)) = true := bne_iff_ne.mpr c3
  have c3b2 : (l0.length == l1.length) = false := by first | simpa using c3 | (simp at c3 ⊢; omega)
  obtain rfl := Option.some.inj H; go_enter Tryd.func61, Tryd.ntmps61; go_wp2
  repeat (go_quiet (fail); try go_wp2)
  go_ret; exact ⟨tF, tD⟩
def laws_eqRelation.f (k : Nat) (a0_0 : Int) (a0_1 : Int) (l0_2 : List Bool) (l0_3 : List (List Int)) (a1_0 : Int) (a1_1 : Int) (l1_2 : List Bool) (l1_3 : List (List Int)) : Option (Bool) := if a0_0 = a1_0 then (if a0_1 = a1_1 then ((laws_eqBoolS.f k l0_2 l1_2).bind fun t290 => (if t290 = true then ((laws_eqInt64SS.f k l0_3 l1_3).bind fun t291 => (if t291 = true then (some true) else (some false))) else (some false))) else (some false)) else (some false)
theorem laws_eqRelation.calls (k : Nat) (a0_0 : Int) (a0_1 : Int) (A0_2 : Option Addr) (c0_2 : Nat) (l0_2 : List Bool) (A0_3 : Option Addr) (c0_3 : Nat) (l0_3 : List (List Int)) (a1_0 : Int) (a1_1 : Int) (A1_2 : Option Addr) (c1_2 : Nat) (l1_2 : List Bool) (A1_3 : Option Addr) (c1_3 : Nat) (l1_3 : List (List Int)) (r : Bool) (w : World) (hr0_2 : Kd.C Kd.bool w A0_2 l0_2.length l0_2) (hc0_2 : l0_2.length ≤ c0_2) (hr0_3 : Kd.C (Kd.slice 2 (Kd.int .i64)) w A0_3 l0_3.length l0_3) (hc0_3 : l0_3.length ≤ c0_3) (hr1_2 : Kd.C Kd.bool w A1_2 l1_2.length l1_2) (hc1_2 : l1_2.length ≤ c1_2) (hr1_3 : Kd.C (Kd.slice 2 (Kd.int .i64)) w A1_3 l1_3.length l1_3) (hc1_3 : l1_3.length ≤ c1_3) (h : laws_eqRelation.f k a0_0 a0_1 l0_2 l0_3 a1_0 a1_1 l1_2 l1_3 = some r) :
  Calls Tryd.prog 19 #[.agg #[.int .i64 a0_0, .int .i64 a0_1, .slice A0_2 l0_2.length c0_2, .slice A0_3 l0_3.length c0_3], .agg #[.int .i64 a1_0, .int .i64 a1_1, .slice A1_2 l1_2.length c1_2, .slice A1_3 l1_3.length c1_3]] w fun e w' => e = .returned (.bool r) ∧ Below w.heap.size w w' := by
 have hu29 := Tryd.underlying29; have HR0_2 := am hr0_2; have HC0_2 := am hc0_2; clear hr0_2 hc0_2; have HR0_3 := am hr0_3; have HC0_3 := am hc0_3; clear hr0_3 hc0_3; have HR1_2 := am hr1_2; have HC1_2 := am hc1_2; clear hr1_2 hc1_2; have HR1_3 := am hr1_3; have HC1_3 := am hc1_3; clear hr1_3 hc1_3; have HB := am (Below.refl w.heap.size w); have H : (if a0_0 = a1_0 then (if a0_1 = a1_1 then ((laws_eqBoolS.f k l0_2 l1_2).bind fun t290 => (if t290 = true then ((laws_eqInt64SS.f k l0_3 l1_3).bind fun t291 => (if t291 = true then (some true) else (some false))) else (some false))) else (some false)) else (some false)) = some r := h; clear h; by_cases c3 : a0_0 = a1_0
 ·rw [if_pos c3] at H; have c3b0 : (a0_0 == a1_0) = true := beq_iff_eq.mpr c3; have c3b1 : (a0_0 != a1_0) = false := bne_eq_false_iff_eq.mpr c3; clear c3; by_cases c4 : a0_1 = a1_1
  ·rw [if_pos c4] at H; have c4b0 : (a0_1 == a1_1) = true := beq_iff_eq.mpr c4; have c4b1 : (a0_1 != a1_1) = false := bne_eq_false_iff_eq.mpr c4; clear c4; obtain ⟨t290, A50, H⟩ := oB H; replace H : (if t290 = true then ((laws_eqInt64SS.f k l0_3 l1_3).bind fun t291 => (if t291 = true then (some true) else (some false))) else (some false)) = some r := H; have A5 := am A50; clear A50; by_cases c6 : t290 = true
   ·subst c6; (have H1 : ((laws_eqInt64SS.f k l0_3 l1_3).bind fun t291 => (if t291 = true then (some true) else (some false))) = some r := by rw [if_pos rfl] at H; exact H); clear H; have H := H1; clear H1; obtain ⟨t291, A70, H⟩ := oB H; replace H : (if t291 = true then (some true) else (some false)) = some r := H; have A7 := am A70; clear A70; by_cases c8 : t291 = true
    ·subst c8; (have H1 : (some true) = some r := by rw [if_pos rfl] at H; exact H); clear H; have H := H1; clear H1; obtain rfl := Option.some.inj H; go_enter Tryd.func19, Tryd.ntmps19
     go_wp2_with (first | ((with_reducible refine yc0 (N := 2) rfl ?_); refine boxA 2 #[.int .i64 a0_0, .int .i64 a0_1, .slice A0_2 l0_2.length c0_2, .slice A0_3 l0_3.length c0_3] 29 rfl rfl (h := ?_); intro gb288 hg w9 hbox hb; have BK288 := am (hbox); have GW288 := am ((by rw [hg]; exact (zh0 (tB)) : w.heap.size ≤ gb288)); have GE288 := am ((by rw [hg]; exact (zh0 (tB)) : w.heap.size ≤ gb288)); replace HB := am (zo0 (tB) hb); clear hb hbox hg) | ((with_reducible refine yc0 (N := 3) rfl ?_); refine boxA 3 #[.int .i64 a1_0, .int .i64 a1_1, .slice A1_2 l1_2.length c1_2, .slice A1_3 l1_3.length c1_3] 29 rfl rfl (h := ?_); intro gb289 hg w10 hbox hb; have BK289 := am (hbox); have GW289 := am ((by rw [hg]; exact (zh0 (tB)) : w.heap.size ≤ gb289)); have GE289 := am ((by rw [hg]; exact (zh0 (tB)) : w.heap.size ≤ gb289)); have NB288_289 := am ((by rw [hg]; exact Nat.ne_of_lt (bkl BK288.out) : gb288 ≠ gb289)); have NB289_288 := am ((by rw [hg]; exact Nat.ne_of_gt (bkl BK288.out) : gb289 ≠ gb288)); replace BK288 := am (bkb BK288.out hb); replace HB := am (zo0 (tB) hb); clear hb hbox hg; have hnb11 := NB288_289.out; have hnc11 := NB289_288.out; obtain ⟨hcz12_0, hcz12_1, hcz12_2, hcz12_3⟩ := bc4 BK288.out; have hfz12_0 := za0 BK288.out 0; have hfz12_1 := za0 BK288.out 1; have hfz12_2 := za0 BK288.out 2; have hfz12_3 := za0 BK288.out 3; obtain ⟨hcz13_0, hcz13_1, hcz13_2, hcz13_3⟩ := bc4 BK289.out; have hfz13_0 := za0 BK289.out 0; have hfz13_1 := za0 BK289.out 1; have hfz13_2 := za0 BK289.out 2; have hfz13_3 := za0 BK289.out 3) | ((with_reducible refine zu0 (f := 60) rfl ?_); refine goesLA (some 19) Tryd.func60 #[.slice A0_2 l0_2.length c0_2, .slice A1_2 l1_2.length c1_2] rfl rfl rfl (h := ?_); (with_reducible refine (laws_eqBoolS.calls k _ _ l0_2 _ _ l1_2 true _ ?side1 ?side2 ?side3 ?side4 A5.out).mono ?_); (case side1 => exact tC (Kd.zn0 HR0_2.out HB.out)); (case side2 => exact HC0_2.out); (case side3 => exact tC (Kd.zn0 HR1_2.out HB.out)); (case side4 => exact HC1_2.out); rintro e w' ⟨rfl, ⟨nd, rfl⟩⟩; refine ⟨_, rfl, ?_⟩) | ((with_reducible refine zu0 (f := 61) rfl ?_); refine goesLA (some 25) Tryd.func61 #[.slice A0_3 l0_3.length c0_3, .slice A1_3 l1_3.length c1_3] rfl rfl rfl (h := ?_); (with_reducible refine (laws_eqInt64SS.calls k _ _ l0_3 _ _ l1_3 true _ ?side1 ?side2 ?side3 ?side4 A7.out).mono ?_); (case side1 => exact tC (Kd.zn0 HR0_3.out (tB))); (case side2 => exact HC0_3.out); (case side3 => exact tC (Kd.zn0 HR1_3.out (tB))); (case side4 => exact HC1_3.out); rintro e w' ⟨rfl, ⟨nd, rfl⟩⟩; refine ⟨_, rfl, ?_⟩))
     go_ret; exact ⟨tE, tB⟩
    ·replace c8 := Bool.eq_false_iff.mpr c8; subst c8; (have H1 : (some false) = some r := by rw [if_neg (show ¬ (false = true) by decide)] at H; exact H); clear H; have H := H1; clear H1; obtain rfl := Option.some.inj H; go_enter Tryd.func19, Tryd.ntmps19
     go_wp2_with (first | ((with_reducible refine yc0 (N := 2) rfl ?_); refine boxA 2 #[.int .i64 a0_0, .int .i64 a0_1, .slice A0_2 l0_2.length c0_2, .slice A0_3 l0_3.length c0_3] 29 rfl rfl (h := ?_); intro gb288 hg w14 hbox hb; have BK288 := am (hbox); have GW288 := am ((by rw [hg]; exact (zh0 (tB)) : w.heap.size ≤ gb288)); have GE288 := am ((by rw [hg]; exact (zh0 (tB)) : w.heap.size ≤ gb288)); replace HB := am (zo0 (tB) hb); clear hb hbox hg) | ((with_reducible refine yc0 (N := 3) rfl ?_); refine boxA 3 #[.int .i64 a1_0, .int .i64 a1_1, .slice A1_2 l1_2.length c1_2, .slice A1_3 l1_3.length c1_3] 29 rfl rfl (h := ?_); intro gb289 hg w15 hbox hb; have BK289 := am (hbox); have GW289 := am ((by rw [hg]; exact (zh0 (tB)) : w.heap.size ≤ gb289)); have GE289 := am ((by rw [hg]; exact (zh0 (tB)) : w.heap.size ≤ gb289)); have NB288_289 := am ((by rw [hg]; exact Nat.ne_of_lt (bkl BK288.out) : gb288 ≠ gb289)); have NB289_288 := am ((by rw [hg]; exact Nat.ne_of_gt (bkl BK288.out) : gb289 ≠ gb288)); replace BK288 := am (bkb BK288.out hb); replace HB := am (zo0 (tB) hb); clear hb hbox hg; have hnb16 := NB288_289.out; have hnc16 := NB289_288.out; obtain ⟨hcz17_0, hcz17_1, hcz17_2, hcz17_3⟩ := bc4 BK288.out; have hfz17_0 := za0 BK288.out 0; have hfz17_1 := za0 BK288.out 1; have hfz17_2 := za0 BK288.out 2; have hfz17_3 := za0 BK288.out 3; obtain ⟨hcz18_0, hcz18_1, hcz18_2, hcz18_3⟩ := bc4 BK289.out; have hfz18_0 := za0 BK289.out 0; have hfz18_1 := za0 BK289.out 1; have hfz18_2 := za0 BK289.out 2; have hfz18_3 := za0 BK289.out 3) | ((with_reducible refine zu0 (f := 60) rfl ?_); refine goesLA (some 19) Tryd.func60 #[.slice A0_2 l0_2.length c0_2, .slice A1_2 l1_2.length c1_2] rfl rfl rfl (h := ?_); (with_reducible refine (laws_eqBoolS.calls k _ _ l0_2 _ _ l1_2 true _ ?side1 ?side2 ?side3 ?side4 A5.out).mono ?_); (case side1 => exact tC (Kd.zn0 HR0_2.out HB.out)); (case side2 => exact HC0_2.out); (case side3 => exact tC (Kd.zn0 HR1_2.out HB.out)); (case side4 => exact HC1_2.out); rintro e w' ⟨rfl, ⟨nd, rfl⟩⟩; refine ⟨_, rfl, ?_⟩) | ((with_reducible refine zu0 (f := 61) rfl ?_); refine goesLA (some 25) Tryd.func61 #[.slice A0_3 l0_3.length c0_3, .slice A1_3 l1_3.length c1_3] rfl rfl rfl (h := ?_); (with_reducible refine (laws_eqInt64SS.calls k _ _ l0_3 _ _ l1_3 false _ ?side1 ?side2 ?side3 ?side4 A7.out).mono ?_); (case side1 => exact tC (Kd.zn0 HR0_3.out (tB))); (case side2 => exact HC0_3.out); (case side3 => exact tC (Kd.zn0 HR1_3.out (tB))); (case side4 => exact HC1_3.out); rintro e w' ⟨rfl, ⟨nd, rfl⟩⟩; refine ⟨_, rfl, ?_⟩))
     go_ret; exact ⟨tE, tB⟩
   ·replace c6 := Bool.eq_false_iff.mpr c6; subst c6; (have H1 : (some false) = some r := by rw [if_neg (show ¬ (false = true) by decide)] at H; exact H); clear H; have H := H1; clear H1; obtain rfl := Option.some.inj H; go_enter Tryd.func19, Tryd.ntmps19
    go_wp2_with (first | ((with_reducible refine yc0 (N := 2) rfl ?_); refine boxA 2 #[.int .i64 a0_0, .int .i64 a0_1, .slice A0_2 l0_2.length c0_2, .slice A0_3 l0_3.length c0_3] 29 rfl rfl (h := ?_); intro gb288 hg w19 hbox hb; have BK288 := am (hbox); have GW288 := am ((by rw [hg]; exact (zh0 (tB)) : w.heap.size ≤ gb288)); have GE288 := am ((by rw [hg]; exact (zh0 (tB)) : w.heap.size ≤ gb288)); replace HB := am (zo0 (tB) hb); clear hb hbox hg) | ((with_reducible refine yc0 (N := 3) rfl ?_); refine boxA 3 #[.int .i64 a1_0, .int .i64 a1_1, .slice A1_2 l1_2.length c1_2, .slice A1_3 l1_3.length c1_3] 29 rfl rfl (h := ?_); intro gb289 hg w20 hbox hb; have BK289 := am (hbox); have GW289 := am ((by rw [hg]; exact (zh0 (tB)) : w.heap.size ≤ gb289)); have GE289 := am ((by rw [hg]; exact (zh0 (tB)) : w.heap.size ≤ gb289)); have NB288_289 := am ((by rw [hg]; exact Nat.ne_of_lt (bkl BK288.out) : gb288 ≠ gb289)); have NB289_288 := am ((by rw [hg]; exact Nat.ne_of_gt (bkl BK288.out) : gb289 ≠ gb288)); replace BK288 := am (bkb BK288.out hb); replace HB := am (zo0 (tB) hb); clear hb hbox hg; have hnb21 := NB288_289.out; have hnc21 := NB289_288.out; obtain ⟨hcz22_0, hcz22_1, hcz22_2, hcz22_3⟩ := bc4 BK288.out; have hfz22_0 := za0 BK288.out 0; have hfz22_1 := za0 BK288.out 1; have hfz22_2 := za0 BK288.out 2; have hfz22_3 := za0 BK288.out 3; obtain ⟨hcz23_0, hcz23_1, hcz23_2, hcz23_3⟩ := bc4 BK289.out; have hfz23_0 := za0 BK289.out 0; have hfz23_1 := za0 BK289.out 1; have hfz23_2 := za0 BK289.out 2; have hfz23_3 := za0 BK289.out 3) | ((with_reducible refine zu0 (f := 60) rfl ?_); refine goesLA (some 19) Tryd.func60 #[.slice A0_2 l0_2.length c0_2, .slice A1_2 l1_2.length c1_2] rfl rfl rfl (h := ?_); (with_reducible refine (laws_eqBoolS.calls k _ _ l0_2 _ _ l1_2 false _ ?side1 ?side2 ?side3 ?side4 A5.out).mono ?_); (case side1 => exact tC (Kd.zn0 HR0_2.out HB.out)); (case side2 => exact HC0_2.out); (case side3 => exact tC (Kd.zn0 HR1_2.out HB.out)); (case side4 => exact HC1_2.out); rintro e w' ⟨rfl, ⟨nd, rfl⟩⟩; refine ⟨_, rfl, ?_⟩))
    go_ret; exact ⟨tE, tB⟩
  ·rw [if_neg c4] at H; have c4b0 : (a0_1 == a1_1) = false := beq_eq_false_iff_ne.mpr c4; have c4b1 : (a0_1 != a1_1) = true := bne_iff_ne.mpr c4; obtain rfl := Option.some.inj H; go_enter Tryd.func19, Tryd.ntmps19
   go_wp2_with (first | ((with_reducible refine yc0 (N := 2) rfl ?_); refine boxA 2 #[.int .i64 a0_0, .int .i64 a0_1, .slice A0_2 l0_2.length c0_2, .slice A0_3 l0_3.length c0_3] 29 rfl rfl (h := ?_); intro gb288 hg w24 hbox hb; have BK288 := am (hbox); have GW288 := am ((by rw [hg]; exact (zh0 (tB)) : w.heap.size ≤ gb288)); have GE288 := am ((by rw [hg]; exact (zh0 (tB)) : w.heap.size ≤ gb288)); replace HB := am (zo0 (tB) hb); clear hb hbox hg) | ((with_reducible refine yc0 (N := 3) rfl ?_); refine boxA 3 #[.int .i64 a1_0, .int .i64 a1_1, .slice A1_2 l1_2.length c1_2, .slice A1_3 l1_3.length c1_3] 29 rfl rfl (h := ?_); intro gb289 hg w25 hbox hb; have BK289 := am (hbox); have GW289 := am ((by rw [hg]; exact (zh0 (tB)) : w.heap.size ≤ gb289)); have GE289 := am ((by rw [hg]; exact (zh0 (tB)) : w.heap.size ≤ gb289)); have NB288_289 := am ((by rw [hg]; exact Nat.ne_of_lt (bkl BK288.out) : gb288 ≠ gb289)); have NB289_288 := am ((by rw [hg]; exact Nat.ne_of_gt (bkl BK288.out) : gb289 ≠ gb288)); replace BK288 := am (bkb BK288.out hb); replace HB := am (zo0 (tB) hb); clear hb hbox hg; have hnb26 := NB288_289.out; have hnc26 := NB289_288.out; obtain ⟨hcz27_0, hcz27_1, hcz27_2, hcz27_3⟩ := bc4 BK288.out; have hfz27_0 := za0 BK288.out 0; have hfz27_1 := za0 BK288.out 1; have hfz27_2 := za0 BK288.out 2; have hfz27_3 := za0 BK288.out 3; obtain ⟨hcz28_0, hcz28_1, hcz28_2, hcz28_3⟩ := bc4 BK289.out; have hfz28_0 := za0 BK289.out 0; have hfz28_1 := za0 BK289.out 1; have hfz28_2 := za0 BK289.out 2; have hfz28_3 := za0 BK289.out 3))
   go_ret; exact ⟨tE, tB⟩
 ·rw [if_neg c3] at H; have c3b0 : (a0_0 == a1_0) = false := beq_eq_false_iff_ne.mpr c3; have c3b1 : (a0_0 != a1_0) = true := bne_iff_ne.mpr c3; obtain rfl := Option.some.inj H; go_enter Tryd.func19, Tryd.ntmps19
  go_wp2_with (first | ((with_reducible refine yc0 (N := 2) rfl ?_); refine boxA 2 #[.int .i64 a0_0, .int .i64 a0_1, .slice A0_2 l0_2.length c0_2, .slice A0_3 l0_3.length c0_3] 29 rfl rfl (h := ?_); intro gb288 hg w29 hbox hb; have BK288 := am (hbox); have GW288 := am ((by rw [hg]; exact (zh0 (tB)) : w.heap.size ≤ gb288)); have GE288 := am ((by rw [hg]; exact (zh0 (tB)) : w.heap.size ≤ gb288)); replace HB := am (zo0 (tB) hb); clear hb hbox hg) | ((with_reducible refine yc0 (N := 3) rfl ?_); refine boxA 3 #[.int .i64 a1_0, .int .i64 a1_1, .slice A1_2 l1_2.length c1_2, .slice A1_3 l1_3.length c1_3] 29 rfl rfl (h := ?_); intro gb289 hg w30 hbox hb; have BK289 := am (hbox); have GW289 := am ((by rw [hg]; exact (zh0 (tB)) : w.heap.size ≤ gb289)); have GE289 := am ((by rw [hg]; exact (zh0 (tB)) : w.heap.size ≤ gb289)); have NB288_289 := am ((by rw [hg]; exact Nat.ne_of_lt (bkl BK288.out) : gb288 ≠ gb289)); have NB289_288 := am ((by rw [hg]; exact Nat.ne_of_gt (bkl BK288.out) : gb289 ≠ gb288)); replace BK288 := am (bkb BK288.out hb); replace HB := am (zo0 (tB) hb); clear hb hbox hg; have hnb31 := NB288_289.out; have hnc31 := NB289_288.out; obtain ⟨hcz32_0, hcz32_1, hcz32_2, hcz32_3⟩ := bc4 BK288.out; have hfz32_0 := za0 BK288.out 0; have hfz32_1 := za0 BK288.out 1; have hfz32_2 := za0 BK288.out 2; have hfz32_3 := za0 BK288.out 3; obtain ⟨hcz33_0, hcz33_1, hcz33_2, hcz33_3⟩ := bc4 BK289.out; have hfz33_0 := za0 BK289.out 0; have hfz33_1 := za0 BK289.out 1; have hfz33_2 := za0 BK289.out 2; have hfz33_3 := za0 BK289.out 3))
  go_ret; exact ⟨tE, tB⟩
def laws_heldBoolS.l0 : Nat → List Bool → Int → Int → Option (Int)
 | 0, _, _, _ => none
 | k + 1, x0, x1, x5 => if x5 < (x0.length : Int) then (if 0 ≤ x5 then (if ((rdOf false x0 x5) != ((Int.tmod x1 3) == 0)) = true then (some (-1)) else (laws_heldBoolS.l0 k x0 (wrap64 (x1 + 1)) (wrap64 (x5 + 1)))) else (none)) else (some x1)
def laws_heldBoolS.f (k : Nat) (l0 : List Bool) (a1 : Int) : Option (Int) := laws_heldBoolS.l0 k l0 a1 0
theorem laws_heldBoolS.calls (k : Nat) (A0 : Option Addr) (c0 : Nat) (l0 : List Bool) (a1 : Int) (r : Int) (w : World) (hr0 : Kd.C Kd.bool w A0 l0.length l0) (hc0 : l0.length ≤ c0) (h : laws_heldBoolS.f k l0 a1 = some r) :
  Calls Tryd.prog 71 #[.slice A0 l0.length c0, .int .i64 a1] w fun e w' => e = .returned (.int .i64 r) ∧ Drawn0 w w' := by
 have HR0 := am hr0; have HC0 := am hc0; clear hr0 hc0; have H : (laws_heldBoolS.l0 k l0 a1 0) = some r := h; clear h; have H' := am H; clear H; go_enter Tryd.func71, Tryd.ntmps71; go_wp2
 go_loopg [1, 5] k (fun kq v1 v5 w' => ∃ (x1_1 : Int) (x5_1 : Int), v1 = .int .i64 x1_1 ∧ v5 = .int .i64 x5_1 ∧ Aside0 (laws_heldBoolS.l0 kq l0 x1_1 x5_1 = some r) ∧ Aside0 (kq ≤ k) ∧ Drawn0 w w')
 case atStart => exact ⟨(a1), (0), (tF), (tF), H', ⟨Nat.le_refl _⟩, tD⟩
 case round =>
  clear H'
  try clear p2
  obtain ⟨x1_1, x5_1, rfl, rfl, HA, HK1, ⟨m1, rfl⟩⟩ := hrel
  cases gk with
  | zero => exact absurd HA.out (by simp [laws_heldBoolS.l0])
  | succ k1 =>
   have H := HA.out; clear HA; simp only [laws_heldBoolS.l0] at H; by_cases c3 : x5_1 < (l0.length : Int)
   ·rw [if_pos c3] at H; have c3b0 := decide_eq_true c3; clear c3; by_cases c4 : 0 ≤ x5_1
    ·rw [if_pos c4] at H; have c4b0 := decide_eq_true c4; clear c4; by_cases c5 : ((rdOf false l0 x5_1) != ((Int.tmod x1_1 3) == 0)) = true
     ·rw [if_pos c5] at H; have c5b0 : ((rdOf false l0 x5_1) != ((Int.tmod x1_1 3) == 0)) = true := c5
      (try (have c5b1 : decide ((rdOf false l0 x5_1) = ((Int.tmod x1_1 3) == 0)) = false := by simpa using c5))
      (try (have c5b2 : ((rdOf false l0 x5_1) == ((Int.tmod x1_1 3) == 0)) = false := by simpa using c5))
      (try (have c5b3 : ¬ ((rdOf false l0 x5_1) = ((Int.tmod x1_1 3) == 0)) := by simpa using c5))
      clear c5; obtain rfl := Option.some.inj H; have p415 : 0 ≤ (x5_1 : Int) := oA; have q415 : x5_1 < (l0.length : Int) := oA; obtain ⟨ad415, e415, hx415_0⟩ := Kd.xv0 HR0.out x5_1 p415 q415; cases e415; replace p415 := eq_true p415; replace q415 := eq_true q415; go_wp2; go_ret; exact ⟨tF, tD⟩
     ·rw [if_neg c5] at H; (have c5b0 : ((rdOf false l0 x5_1) != ((Int.tmod x1_1 3) == 0)) = false := by simpa using c5)
      (try (have c5b1 : decide ((rdOf false l0 x5_1) = ((Int.tmod x1_1 3) == 0)) = true := by simpa using c5))
      (try (have c5b2 : ((rdOf false l0 x5_1) == ((Int.tmod x1_1 3) == 0)) = true := by simpa using c5))
      clear c5; have H' := am H; clear H; have p415 : 0 ≤ (x5_1 : Int) := oA; have q415 : x5_1 < (l0.length : Int) := oA; obtain ⟨ad415, e415, hx415_0⟩ := Kd.xv0 HR0.out x5_1 p415 q415; cases e415; replace p415 := eq_true p415; replace q415 := eq_true q415; go_wp2; go_roundg k1
      case measure => have := HK1.out; omega
      case rel => exact ⟨(wrap64 (x1_1 + 1)), (wrap64 (x5_1 + 1)), (tF), (tF), H', ⟨by have := HK1.out; omega⟩, tD⟩
    ·rw [if_neg c4] at H; exact absurd H (by simp)
   ·rw [if_neg c3] at H; have c3b0 := decide_eq_false c3; clear c3; obtain rfl := Option.some.inj H; go_wp2; go_ret; exact ⟨tF, tD⟩
def laws_heldInt64S.l0 : Nat → List Int → Int → Int → Option (Int)
 | 0, _, _, _ => none
 | k + 1, x0, x1, x5 => if x5 < (x0.length : Int) then (if 0 ≤ x5 then (if (rd x0 x5) = x1 then (laws_heldInt64S.l0 k x0 (wrap64 (x1 + 1)) (wrap64 (x5 + 1))) else (some (-1))) else (none)) else (some x1)
def laws_heldInt64S.f (k : Nat) (l0 : List Int) (a1 : Int) : Option (Int) := laws_heldInt64S.l0 k l0 a1 0
theorem laws_heldInt64S.calls (k : Nat) (A0 : Option Addr) (c0 : Nat) (l0 : List Int) (a1 : Int) (r : Int) (w : World) (hr0 : Kd.C (Kd.int .i64) w A0 l0.length l0) (hc0 : l0.length ≤ c0) (h : laws_heldInt64S.f k l0 a1 = some r) :
  Calls Tryd.prog 121 #[.slice A0 l0.length c0, .int .i64 a1] w fun e w' => e = .returned (.int .i64 r) ∧ Drawn0 w w' := by
 have HR0 := am hr0; have HC0 := am hc0; clear hr0 hc0; have H : (laws_heldInt64S.l0 k l0 a1 0) = some r := h; clear h; have H' := am H; clear H; go_enter Tryd.func121, Tryd.ntmps121; go_wp2
 go_loopg [1, 5] k (fun kq v1 v5 w' => ∃ (x1_1 : Int) (x5_1 : Int), v1 = .int .i64 x1_1 ∧ v5 = .int .i64 x5_1 ∧ Aside0 (laws_heldInt64S.l0 kq l0 x1_1 x5_1 = some r) ∧ Aside0 (kq ≤ k) ∧ Drawn0 w w')
 case atStart => exact ⟨(a1), (0), (tF), (tF), H', ⟨Nat.le_refl _⟩, tD⟩
 case round =>
  clear H'
  try clear c1; try clear p2
  obtain ⟨x1_1, x5_1, rfl, rfl, HA, HK1, ⟨m1, rfl⟩⟩ := hrel
  cases gk with
  | zero => exact absurd HA.out (by simp [laws_heldInt64S.l0])
  | succ k1 =>
   have H := HA.out; clear HA; simp only [laws_heldInt64S.l0] at H; by_cases c3 : x5_1 < (l0.length : Int)
   ·rw [if_pos c3] at H; have c3b0 := decide_eq_true c3; clear c3; by_cases c4 : 0 ≤ x5_1
    ·rw [if_pos c4] at H; have c4b0 := decide_eq_true c4; clear c4; by_cases c5 : (rd l0 x5_1) = x1_1
     ·rw [if_pos c5] at H; have c5b0 : ((rd l0 x5_1) == x1_1) = true := beq_iff_eq.mpr c5; have c5b1 : ((rd l0 x5_1) != x1_1) = false := bne_eq_false_iff_eq.mpr c5; clear c5; have H' := am H; clear H; have p416 : 0 ≤ (x5_1 : Int) := oA; have q416 : x5_1 < (l0.length : Int) := oA; obtain ⟨ad416, e416, hx416_0⟩ := Kd.at_int HR0.out x5_1 p416 q416; cases e416; replace p416 := eq_true p416; replace q416 := eq_true q416; go_wp2; go_roundg k1
      case measure => have := HK1.out; omega
      case rel => exact ⟨(wrap64 (x1_1 + 1)), (wrap64 (x5_1 + 1)), (tF), (tF), H', ⟨by have := HK1.out; omega⟩, tD⟩
     ·rw [if_neg c5] at H; have c5b0 : ((rd l0 x5_1) == x1_1) = false := beq_eq_false_iff_ne.mpr c5; have c5b1 : ((rd l0 x5_1) != x1_1) = true := bne_iff_ne.mpr c5; obtain rfl := Option.some.inj H; have p416 : 0 ≤ (x5_1 : Int) := oA; have q416 : x5_1 < (l0.length : Int) := oA; obtain ⟨ad416, e416, hx416_0⟩ := Kd.at_int HR0.out x5_1 p416 q416; cases e416; replace p416 := eq_true p416; replace q416 := eq_true q416; go_wp2; go_ret; exact ⟨tF, tD⟩
    ·rw [if_neg c4] at H; exact absurd H (by simp)
   ·rw [if_neg c3] at H; have c3b0 := decide_eq_false c3; clear c3; obtain rfl := Option.some.inj H; go_wp2; go_ret; exact ⟨tF, tD⟩
def laws_heldInt64SS.l0 : Nat → List (List Int) → Int → Int → Option (Int)
 | 0, _, _, _ => none
 | k + 1, x0, x1, x5 => if x5 < (x0.length : Int) then (if 0 ≤ x5 then ((laws_heldInt64S.f k (rd_L2 x0 x5) x1).bind fun t418 => (if t418 < 0 then (some (-1)) else (laws_heldInt64SS.l0 k x0 t418 (wrap64 (x5 + 1))))) else (none)) else (some x1)
def laws_heldInt64SS.f (k : Nat) (l0 : List (List Int)) (a1 : Int) : Option (Int) := laws_heldInt64SS.l0 k l0 a1 0
theorem laws_heldInt64SS.calls (k : Nat) (A0 : Option Addr) (c0 : Nat) (l0 : List (List Int)) (a1 : Int) (r : Int) (w : World) (hr0 : Kd.C (Kd.slice 2 (Kd.int .i64)) w A0 l0.length l0) (hc0 : l0.length ≤ c0) (h : laws_heldInt64SS.f k l0 a1 = some r) :
  Calls Tryd.prog 72 #[.slice A0 l0.length c0, .int .i64 a1] w fun e w' => e = .returned (.int .i64 r) ∧ Drawn0 w w' := by
 have HR0 := am hr0; have HC0 := am hc0; clear hr0 hc0; have H : (laws_heldInt64SS.l0 k l0 a1 0) = some r := h; clear h; have H' := am H; clear H; go_enter Tryd.func72, Tryd.ntmps72; go_wp2
 go_loopg [1, 5] k (fun kq v1 v5 w' => ∃ (x1_1 : Int) (x5_1 : Int), v1 = .int .i64 x1_1 ∧ v5 = .int .i64 x5_1 ∧ Aside0 (laws_heldInt64SS.l0 kq l0 x1_1 x5_1 = some r) ∧ Aside0 (kq ≤ k) ∧ Drawn0 w w')
 case atStart => exact ⟨(a1), (0), (tF), (tF), H', ⟨Nat.le_refl _⟩, tD⟩
 case round =>
  clear H'
  try clear p2
  obtain ⟨x1_1, x5_1, rfl, rfl, HA, HK1, ⟨m1, rfl⟩⟩ := hrel
  cases gk with
  | zero => exact absurd HA.out (by simp [laws_heldInt64SS.l0])
  | succ k1 =>
   have H := HA.out; clear HA; simp only [laws_heldInt64SS.l0] at H; by_cases c3 : x5_1 < (l0.length : Int)
   ·rw [if_pos c3] at H; have c3b0 := decide_eq_true c3; clear c3; by_cases c4 : 0 ≤ x5_1
    ·rw [if_pos c4] at H; have c4b0 := decide_eq_true c4; clear c4; obtain ⟨t418, A50, H⟩ := oB H; replace H : (if t418 < 0 then (some (-1)) else (laws_heldInt64SS.l0 k1 l0 t418 (wrap64 (x5_1 + 1)))) = some r := H; have A5 := am A50; clear A50; by_cases c6 : t418 < 0
     ·rw [if_pos c6] at H; have c6b0 := decide_eq_true c6; clear c6; obtain rfl := Option.some.inj H; have p417 : 0 ≤ (x5_1 : Int) := oA; have q417 : x5_1 < (l0.length : Int) := oA; obtain ⟨ad417, A417_0, c417_0, e417, hx417_0, hl417_0, hi417_0⟩ := at_L2 HR0.out x5_1 p417 q417; cases e417; have HR417_0 := am hi417_0; have HC417_0 := am hl417_0; clear hi417_0 hl417_0; replace p417 := eq_true p417; replace q417 := eq_true q417
      go_wp2_with (first | ((with_reducible refine zu0 (f := 121) rfl ?_); refine goesLA (some 17) Tryd.func121 #[.slice A417_0 (rd_L2 l0 x5_1).length c417_0, .int .i64 x1_1] rfl rfl rfl (h := ?_); (with_reducible refine (laws_heldInt64S.calls k1 _ _ (rd_L2 l0 x5_1) x1_1 t418 _ ?side1 ?side2 A5.out).mono ?_); (case side1 => exact tC HR417_0.out); (case side2 => exact HC417_0.out); rintro e w' ⟨rfl, ⟨nd, rfl⟩⟩; refine ⟨_, rfl, ?_⟩))
      go_ret; exact ⟨tF, tD⟩
     ·rw [if_neg c6] at H; have c6b0 := decide_eq_false c6; clear c6; have H' := am H; clear H; have p417 : 0 ≤ (x5_1 : Int) := oA; have q417 : x5_1 < (l0.length : Int) := oA; obtain ⟨ad417, A417_0, c417_0, e417, hx417_0, hl417_0, hi417_0⟩ := at_L2 HR0.out x5_1 p417 q417; cases e417; have HR417_0 := am hi417_0; have HC417_0 := am hl417_0; clear hi417_0 hl417_0; replace p417 := eq_true p417; replace q417 := eq_true q417
      go_wp2_with (first | ((with_reducible refine zu0 (f := 121) rfl ?_); refine goesLA (some 17) Tryd.func121 #[.slice A417_0 (rd_L2 l0 x5_1).length c417_0, .int .i64 x1_1] rfl rfl rfl (h := ?_); (with_reducible refine (laws_heldInt64S.calls k1 _ _ (rd_L2 l0 x5_1) x1_1 t418 _ ?side1 ?side2 A5.out).mono ?_); (case side1 => exact tC HR417_0.out); (case side2 => exact HC417_0.out); rintro e w' ⟨rfl, ⟨nd, rfl⟩⟩; refine ⟨_, rfl, ?_⟩))
      go_roundg k1
      case measure => have := HK1.out; omega
      case rel => exact ⟨(t418), (wrap64 (x5_1 + 1)), (tF), (tF), H', ⟨by have := HK1.out; omega⟩, tD⟩
    ·rw [if_neg c4] at H; exact absurd H (by simp)
   ·rw [if_neg c3] at H; have c3b0 := decide_eq_false c3; clear c3; obtain rfl := Option.some.inj H; go_wp2; go_ret; exact ⟨tF, tD⟩
def laws_heldRelation.f (k : Nat) (a0_0 : Int) (a0_1 : Int) (l0_2 : List Bool) (l0_3 : List (List Int)) (a1 : Int) : Option (Int) := (laws_heldBoolS.f k l0_2 a1).bind fun t420 => (if t420 < 0 then (some (-1)) else ((laws_heldInt64SS.f k l0_3 t420).bind fun t421 => (if t421 < 0 then (some (-1)) else (some t421))))
theorem laws_heldRelation.calls (k : Nat) (a0_0 : Int) (a0_1 : Int) (A0_2 : Option Addr) (c0_2 : Nat) (l0_2 : List Bool) (A0_3 : Option Addr) (c0_3 : Nat) (l0_3 : List (List Int)) (a1 : Int) (r : Int) (w : World) (hr0_2 : Kd.C Kd.bool w A0_2 l0_2.length l0_2) (hc0_2 : l0_2.length ≤ c0_2) (hr0_3 : Kd.C (Kd.slice 2 (Kd.int .i64)) w A0_3 l0_3.length l0_3) (hc0_3 : l0_3.length ≤ c0_3) (h : laws_heldRelation.f k a0_0 a0_1 l0_2 l0_3 a1 = some r) :
  Calls Tryd.prog 23 #[.agg #[.int .i64 a0_0, .int .i64 a0_1, .slice A0_2 l0_2.length c0_2, .slice A0_3 l0_3.length c0_3], .int .i64 a1] w fun e w' => e = .returned (.int .i64 r) ∧ Below w.heap.size w w' := by
 have hu29 := Tryd.underlying29; have HR0_2 := am hr0_2; have HC0_2 := am hc0_2; clear hr0_2 hc0_2; have HR0_3 := am hr0_3; have HC0_3 := am hc0_3; clear hr0_3 hc0_3; have HB := am (Below.refl w.heap.size w); have H : ((laws_heldBoolS.f k l0_2 a1).bind fun t420 => (if t420 < 0 then (some (-1)) else ((laws_heldInt64SS.f k l0_3 t420).bind fun t421 => (if t421 < 0 then (some (-1)) else (some t421))))) = some r := h; clear h; obtain ⟨t420, A30, H⟩ := oB H; replace H : (if t420 < 0 then (some (-1)) else ((laws_heldInt64SS.f k l0_3 t420).bind fun t421 => (if t421 < 0 then (some (-1)) else (some t421)))) = some r := H; have A3 := am A30; clear A30; by_cases c4 : t420 < 0
 ·rw [if_pos c4] at H; have c4b0 := decide_eq_true c4; clear c4; obtain rfl := Option.some.inj H; go_enter Tryd.func23, Tryd.ntmps23
  go_wp2_with (first | ((with_reducible refine yc0 (N := 2) rfl ?_); refine boxA 2 #[.int .i64 a0_0, .int .i64 a0_1, .slice A0_2 l0_2.length c0_2, .slice A0_3 l0_3.length c0_3] 29 rfl rfl (h := ?_); intro gb419 hg w5 hbox hb; have BK419 := am (hbox); have GW419 := am ((by rw [hg]; exact (zh0 (tB)) : w.heap.size ≤ gb419)); have GE419 := am ((by rw [hg]; exact (zh0 (tB)) : w.heap.size ≤ gb419)); replace HB := am (zo0 (tB) hb); clear hb hbox hg; obtain ⟨hcz6_0, hcz6_1, hcz6_2, hcz6_3⟩ := bc4 BK419.out; have hfz6_0 := za0 BK419.out 0; have hfz6_1 := za0 BK419.out 1; have hfz6_2 := za0 BK419.out 2; have hfz6_3 := za0 BK419.out 3) | ((with_reducible refine zu0 (f := 71) rfl ?_); refine goesLA (some 8) Tryd.func71 #[.slice A0_2 l0_2.length c0_2, .int .i64 a1] rfl rfl rfl (h := ?_); (with_reducible refine (laws_heldBoolS.calls k _ _ l0_2 a1 t420 _ ?side1 ?side2 A3.out).mono ?_); (case side1 => exact tC (Kd.zn0 HR0_2.out HB.out)); (case side2 => exact HC0_2.out); rintro e w' ⟨rfl, ⟨nd, rfl⟩⟩; refine ⟨_, rfl, ?_⟩))
  go_ret; exact ⟨tE, tB⟩
 ·rw [if_neg c4] at H; have c4b0 := decide_eq_false c4; clear c4; obtain ⟨t421, A70, H⟩ := oB H; replace H : (if t421 < 0 then (some (-1)) else (some t421)) = some r := H; have A7 := am A70; clear A70; by_cases c8 : t421 < 0
  ·rw [if_pos c8] at H; have c8b0 := decide_eq_true c8; clear c8; obtain rfl := Option.some.inj H; go_enter Tryd.func23, Tryd.ntmps23
   go_wp2_with (first | ((with_reducible refine yc0 (N := 2) rfl ?_); refine boxA 2 #[.int .i64 a0_0, .int .i64 a0_1, .slice A0_2 l0_2.length c0_2, .slice A0_3 l0_3.length c0_3] 29 rfl rfl (h := ?_); intro gb419 hg w9 hbox hb; have BK419 := am (hbox); have GW419 := am ((by rw [hg]; exact (zh0 (tB)) : w.heap.size ≤ gb419)); have GE419 := am ((by rw [hg]; exact (zh0 (tB)) : w.heap.size ≤ gb419)); replace HB := am (zo0 (tB) hb); clear hb hbox hg; obtain ⟨hcz10_0, hcz10_1, hcz10_2, hcz10_3⟩ := bc4 BK419.out; have hfz10_0 := za0 BK419.out 0; have hfz10_1 := za0 BK419.out 1; have hfz10_2 := za0 BK419.out 2; have hfz10_3 := za0 BK419.out 3) | ((with_reducible refine zu0 (f := 71) rfl ?_); refine goesLA (some 8) Tryd.func71 #[.slice A0_2 l0_2.length c0_2, .int .i64 a1] rfl rfl rfl (h := ?_); (with_reducible refine (laws_heldBoolS.calls k _ _ l0_2 a1 t420 _ ?side1 ?side2 A3.out).mono ?_); (case side1 => exact tC (Kd.zn0 HR0_2.out HB.out)); (case side2 => exact HC0_2.out); rintro e w' ⟨rfl, ⟨nd, rfl⟩⟩; refine ⟨_, rfl, ?_⟩) | ((with_reducible refine zu0 (f := 72) rfl ?_); refine goesLA (some 14) Tryd.func72 #[.slice A0_3 l0_3.length c0_3, .int .i64 t420] rfl rfl rfl (h := ?_); (with_reducible refine (laws_heldInt64SS.calls k _ _ l0_3 t420 t421 _ ?side1 ?side2 A7.out).mono ?_); (case side1 => exact tC (Kd.zn0 HR0_3.out (tB))); (case side2 => exact HC0_3.out); rintro e w' ⟨rfl, ⟨nd, rfl⟩⟩; refine ⟨_, rfl, ?_⟩))
   go_ret; exact ⟨tE, tB⟩
  ·rw [if_neg c8] at H; have c8b0 := decide_eq_false c8; clear c8; obtain rfl := Option.some.inj H; go_enter Tryd.func23, Tryd.ntmps23
   go_wp2_with (first | ((with_reducible refine yc0 (N := 2) rfl ?_); refine boxA 2 #[.int .i64 a0_0, .int .i64 a0_1, .slice A0_2 l0_2.length c0_2, .slice A0_3 l0_3.length c0_3] 29 rfl rfl (h := ?_); intro gb419 hg w11 hbox hb; have BK419 := am (hbox); have GW419 := am ((by rw [hg]; exact (zh0 (tB)) : w.heap.size ≤ gb419)); have GE419 := am ((by rw [hg]; exact (zh0 (tB)) : w.heap.size ≤ gb419)); replace HB := am (zo0 (tB) hb); clear hb hbox hg; obtain ⟨hcz12_0, hcz12_1, hcz12_2, hcz12_3⟩ := bc4 BK419.out; have hfz12_0 := za0 BK419.out 0; have hfz12_1 := za0 BK419.out 1; have hfz12_2 := za0 BK419.out 2; have hfz12_3 := za0 BK419.out 3) | ((with_reducible refine zu0 (f := 71) rfl ?_); refine goesLA (some 8) Tryd.func71 #[.slice A0_2 l0_2.length c0_2, .int .i64 a1] rfl rfl rfl (h := ?_); (with_reducible refine (laws_heldBoolS.calls k _ _ l0_2 a1 t420 _ ?side1 ?side2 A3.out).mono ?_); (case side1 => exact tC (Kd.zn0 HR0_2.out HB.out)); (case side2 => exact HC0_2.out); rintro e w' ⟨rfl, ⟨nd, rfl⟩⟩; refine ⟨_, rfl, ?_⟩) | ((with_reducible refine zu0 (f := 72) rfl ?_); refine goesLA (some 14) Tryd.func72 #[.slice A0_3 l0_3.length c0_3, .int .i64 t420] rfl rfl rfl (h := ?_); (with_reducible refine (laws_heldInt64SS.calls k _ _ l0_3 t420 t421 _ ?side1 ?side2 A7.out).mono ?_); (case side1 => exact tC (Kd.zn0 HR0_3.out (tB))); (case side2 => exact HC0_3.out); rintro e w' ⟨rfl, ⟨nd, rfl⟩⟩; refine ⟨_, rfl, ?_⟩))
   go_ret; exact ⟨tE, tB⟩
def yd0.l0 : Nat → Int → Int → Option (Int)
 | 0, _, _ => none
 | k + 1, x0, x3 => if x0 > 0 then (yd0.l0 k (wrap64 (x0 - 1)) (wrap64 (x3 * 3))) else (some x3)
def yd0.f (k : Nat) (a0 : Int) : Option (Int) := yd0.l0 k a0 1
theorem yd0.mono_l : ∀ k, (∀ y0 y1, LeO (yd0.l0 k y0 y1) (yd0.l0 (k + 1) y0 y1))
 | 0 => fun _ _ r h => by simp [yd0.l0] at h
 | k + 1 => by
  have ih0 := yd0.mono_l k
  ·intro y0 y1; unfold yd0.l0
   repeat' first
   | (with_reducible exact ih0 _ _)
   | (with_reducible exact LeO.refl _)
   | (with_reducible exact LeO.none _)
   | (with_reducible refine LeO.ite ?_ ?_)
   | (with_reducible refine LeO.bind ?_ (fun _ => ?_))
   | exact ih0 _ _
   | exact LeO.none _
   | refine LeO.ite ?_ ?_
   | refine LeO.bind ?_ (fun _ => ?_)
theorem yd0.mono : ∀ a0 k, LeO (yd0.f k a0) (yd0.f (k + 1) a0) := by
 intro a0 k; have ih0 := yd0.mono_l k; unfold yd0.f
 repeat' first
   | (with_reducible exact ih0 _ _)
   | (with_reducible exact LeO.refl _)
   | (with_reducible exact LeO.none _)
   | (with_reducible refine LeO.ite ?_ ?_)
   | (with_reducible refine LeO.bind ?_ (fun _ => ?_))
   | exact ih0 _ _
   | exact LeO.none _
   | refine LeO.ite ?_ ?_
   | refine LeO.bind ?_ (fun _ => ?_)
theorem yd0.calls (k : Nat) (a0 : Int) (r : Int) (w : World) (h : yd0.f k a0 = some r) :
  Calls Tryd.prog 142 #[.int .i64 a0] w fun e w' => e = .returned (.int .i64 r) ∧ Drawn0 w w' := by
 have H : (yd0.l0 k a0 1) = some r := h; clear h; have H' := am H; clear H; go_enter Tryd.func142, Tryd.ntmps142; go_wp2
 go_loopg [0, 3] k (fun kq v0 v3 w' => ∃ (x0_1 : Int) (x3_1 : Int), v0 = .int .i64 x0_1 ∧ v3 = .int .i64 x3_1 ∧ Aside0 (yd0.l0 kq x0_1 x3_1 = some r) ∧ Aside0 (kq ≤ k) ∧ Drawn0 w w')
 case atStart => exact ⟨(a0), (1), (tF), (tF), H', ⟨Nat.le_refl _⟩, tD⟩
 case round =>
  clear H'
  try clear c1
  obtain ⟨x0_1, x3_1, rfl, rfl, HA, HK1, ⟨m1, rfl⟩⟩ := hrel
  cases gk with
  | zero => exact absurd HA.out (by simp [yd0.l0])
  | succ k1 =>
   have H := HA.out; clear HA; simp only [yd0.l0] at H; by_cases c2 : x0_1 > 0
   ·rw [if_pos c2] at H; have c2b0 : decide (0 < x0_1) = true := decide_eq_true c2; clear c2; have H' := am H; clear H; go_wp2; go_roundg k1
    case measure => have := HK1.out; omega
    case rel => exact ⟨(wrap64 (x0_1 - 1)), (wrap64 (x3_1 * 3)), (tF), (tF), H', ⟨by have := HK1.out; omega⟩, tD⟩
   ·rw [if_neg c2] at H; have c2b0 : decide (0 < x0_1) = false := decide_eq_false c2; clear c2; obtain rfl := Option.some.inj H; go_wp2; go_ret; exact ⟨tF, tD⟩
def zr0.f (k : Nat) (a0 : Int) : Option (Int) := (yd0.f k a0).bind fun t185 => (some (wrap64 (t185 - 1)))
theorem zr0.mono : ∀ a0 k, LeO (zr0.f k a0) (zr0.f (k + 1) a0) := by
 intro a0 k; unfold zr0.f
 repeat' first
   | (with_reducible exact yd0.mono _ _)
   | (with_reducible exact LeO.refl _)
   | (with_reducible exact LeO.none _)
   | (with_reducible refine LeO.ite ?_ ?_)
   | (with_reducible refine LeO.bind ?_ (fun _ => ?_))
   | exact yd0.mono _ _
   | exact LeO.none _
   | refine LeO.ite ?_ ?_
   | refine LeO.bind ?_ (fun _ => ?_)
theorem zr0.calls (k : Nat) (a0 : Int) (r : Int) (w : World) (h : zr0.f k a0 = some r) :
  Calls Tryd.prog 118 #[.int .i64 a0] w fun e w' => e = .returned (.int .i64 r) ∧ Drawn0 w w' := by
 have H : ((yd0.f k a0).bind fun t185 => (some (wrap64 (t185 - 1)))) = some r := h; clear h; obtain ⟨t185, A20, H⟩ := oB H; replace H : (some (wrap64 (t185 - 1))) = some r := H; have A2 := am A20; clear A20; obtain rfl := Option.some.inj H; go_enter Tryd.func118, Tryd.ntmps118
 go_wp2_with (first | ((with_reducible refine zu0 (f := 142) rfl ?_); refine goesLA (some 4) Tryd.func142 #[.int .i64 a0] rfl rfl rfl (h := ?_); (with_reducible refine (yd0.calls k a0 t185 _ A2.out).mono ?_); rintro e w' ⟨rfl, ⟨nd, rfl⟩⟩; refine ⟨_, rfl, ?_⟩))
 go_ret; exact ⟨tF, tD⟩
/-- A machine in memory, and its rows. -/
def MachAt (W : World) (g : Nat) (tapes start : Int) (ac : List Bool) (ns : List (List Int)) : Prop :=
 ∃ Aa ca An cn, W.heap[g]? = some (.cells #[.int .i64 tapes, .int .i64 start, .slice Aa ac.length ca, .slice An ns.length cn] 64 (0, 0)) ∧ Kd.C Kd.bool W Aa ac.length ac ∧ Kd.C (Kd.slice 3 (Kd.int .i64)) W An ns.length ns
/-- A variable that holds a row of numbers. -/
def VarAt (W : World) (g : Nat) (l : List Int) : Prop :=
 ∃ A c, W.heap[g]? = some (.cells #[.slice A l.length c] 81 (0, 0)) ∧ Kd.C (Kd.int .i64) W A l.length l
theorem MachAt.below {W W1 : World} {g : Nat} {tapes start : Int} {ac : List Bool} {ns : List (List Int)} (h : MachAt W g tapes start ac ns) (hb : Below W.heap.size W W1) : MachAt W1 g tapes start ac ns := by
 obtain ⟨Aa, ca, An, cn, h1, h2, h3⟩ := h; exact ⟨Aa, ca, An, cn, ze0 h1 hb, Kd.zn0 h2 hb, Kd.zn0 h3 hb⟩
theorem VarAt.below {W W1 : World} {g : Nat} {l : List Int} (h : VarAt W g l) (hb : Below W.heap.size W W1) : VarAt W1 g l := by
 obtain ⟨A, c, h1, h2⟩ := h; exact ⟨A, c, ze0 h1 hb, Kd.zn0 h2 hb⟩
def accM (one : List Int) (ac : List Bool) (x : Int) : Option Bool := if 0 ≤ x then (if x < (one.length : Int) then (if 0 ≤ rd one x then (if rd one x < (ac.length : Int) then some (rdOf false ac (rd one x)) else none) else none) else none) else none
theorem yd1 {w : World} {gm go : Nat} {tapes start : Int} {ac : List Bool} {ns : List (List Int)} {one : List Int} (hm : MachAt w gm tapes start ac ns) (ho : VarAt w go one) :
  CloOK Tryd.prog w 146 #[.pointer (some ⟨gm, 0, none⟩), .pointer (some ⟨go, 0, none⟩)] (fun x : Int => #[.int .i64 x]) (accM one ac) Value.bool := by
 refine ⟨⟨_, Tryd.func146, by kernel_rfl, rfl⟩, fun x r W hb h => ?_⟩; obtain ⟨Aa, ca, An, cn, b1, hC1, hC2⟩ := hm.below hb; obtain ⟨Ao, co, b2, hCo⟩ := ho.below hb; clear hm ho hb; unfold accM at h; by_cases p0 : 0 ≤ x
 ·rw [if_pos p0] at h; by_cases q0 : x < (one.length : Int)
  ·rw [if_pos q0] at h; by_cases p1 : 0 ≤ rd one x
   ·rw [if_pos p1] at h; by_cases q1 : rd one x < (ac.length : Int)
    ·rw [if_pos q1] at h; obtain rfl := Option.some.inj h; clear h; obtain ⟨ad1, e1, hx1⟩ := Kd.at_int hCo x p0 q0; obtain ⟨ad2, e2, hx2⟩ := Kd.xv0 hC1 (rd one x) p1 q1; subst e1; subst e2; obtain ⟨-, -, m2, -⟩ := bc4 b1; have v0 : W.cell? ⟨go, 0, none⟩ = some (.slice (some ad1) one.length co) := (zi0 b2 0).trans rfl; replace p0 := eq_true p0; replace q0 := eq_true q0; replace p1 := eq_true p1; replace q1 := eq_true q1; clear b1 b2 hC1 hC2 hCo; go_enter Tryd.func146, Tryd.ntmps146; go_wp2
     repeat (go_quiet (fail); try go_wp2)
     go_ret; exact ⟨rfl, by repeat (first | exact Below.refl _ _ | apply zg0 | apply yf0)⟩
    ·rw [if_neg q1] at h; cases h
   ·rw [if_neg p1] at h; cases h
  ·rw [if_neg q0] at h; cases h
 ·rw [if_neg p0] at h; cases h
def rdR (xs : List (List Int)) (i : Int) : List Int := xs.getD i.toNat []
theorem kh0 {e : TypeId} {w : World} {A : Option Addr} {n : Nat} {xs : List (List Int)} (h : Kd.C (Kd.slice e (Kd.int .i64)) w A n xs) (i : Int) (h0 : 0 ≤ i) (h1 : i < n) : ∃ ad A0 c0, A = some ad ∧ w.cell? (ad.add i.toNat) = some (.slice A0 (rdR xs i).length c0) ∧ (rdR xs i).length ≤ c0 ∧ (Kd.int .i64).C w A0 (rdR xs i).length (rdR xs i) := by
 obtain ⟨ad, c, e', _, ⟨A0, c0, rfl, hl, hC⟩, hc⟩ := Kd.C_get h [] i h0 h1; have := hc 0 _ rfl; rw [show i.toNat * (Kd.slice e (Kd.int .i64)).sz + 0 = i.toNat by simp [show (Kd.slice e (Kd.int .i64)).sz = 1 from rfl]] at this; exact ⟨ad, A0, c0, e', this, hl, hC⟩
/-- A bounds-checked read. -/
def at1 {α : Type} (d : α) (xs : List α) (i : Int) : Option α := if 0 ≤ i ∧ i < (xs.length : Int) then some (rdOf d xs i) else none
def nextM (group one : List Int) (ns : List (List Int)) (g c : Int) : Option Int :=
 (at1 0 one g).bind fun i => (at1 [] ns i).bind fun row => (at1 0 row c).bind fun j => at1 0 group j
theorem xe0 {α : Type} {d : α} {xs : List α} {i : Int} {r : α} (h : at1 d xs i = some r) : 0 ≤ i ∧ i < (xs.length : Int) ∧ r = rdOf d xs i := by
 unfold at1 at h
 split at h
 ·next hc => exact ⟨hc.1, hc.2, (Option.some.inj h).symm⟩
 ·cases h
theorem yc1 {w : World} {gm go gg : Nat} {tapes start : Int} {ac : List Bool} {ns : List (List Int)} {one group : List Int} (hm : MachAt w gm tapes start ac ns) (ho : VarAt w go one) (hg : VarAt w gg group) :
  CloOK Tryd.prog w 147 #[.pointer (some ⟨gg, 0, none⟩), .pointer (some ⟨gm, 0, none⟩), .pointer (some ⟨go, 0, none⟩)] (fun x : Int × Int => #[.int .i64 x.1, .int .i64 x.2]) (fun x => nextM group one ns x.1 x.2) (Value.int .i64) := by
 refine ⟨⟨_, Tryd.func147, by kernel_rfl, rfl⟩, fun x r W hb h => ?_⟩; obtain ⟨Aa, ca, An, cn, b1, hC1, hC2⟩ := hm.below hb; obtain ⟨Ao, co, b2, hCo⟩ := ho.below hb; obtain ⟨Ag, cg, b3, hCg⟩ := hg.below hb; clear hm ho hg hb; obtain ⟨x, c⟩ := x; have h' : nextM group one ns x c = some r := h; clear h; obtain ⟨i, h1, h⟩ := oB h'; obtain ⟨row, h2, h⟩ := oB h; obtain ⟨j, h3, h4⟩ := oB h; clear h' h; obtain ⟨p0, q0, ei⟩ := xe0 h1; obtain ⟨p1, q1, er⟩ := xe0 h2; obtain ⟨p2, q2, ej⟩ := xe0 h3; obtain ⟨p3, q3, eo⟩ := xe0 h4; clear h1 h2 h3 h4; obtain ⟨ad1, e1, hx1⟩ := Kd.at_int hCo x p0 q0; obtain ⟨ad2, A2, c2, e2, hx2, hl2, hC3⟩ := kh0 hC2 i p1 q1; rw [show rdR ns i = row from er.symm] at hx2 hl2 hC3; obtain ⟨ad3, e3, hx3⟩ := Kd.at_int hC3 c p2 q2; obtain ⟨ad4, e4, hx4⟩ := Kd.at_int hCg j p3 q3; subst e1; subst e2; subst e3; subst e4; rw [show rd one x = i from ei.symm] at hx1; rw [show rd row c = j from ej.symm] at hx3; rw [show rd group j = r from eo.symm] at hx4; obtain ⟨-, -, -, m3⟩ := bc4 b1; have v0 : W.cell? ⟨go, 0, none⟩ = some (.slice (some ad1) one.length co) := (zi0 b2 0).trans rfl; have v1 : W.cell? ⟨gg, 0, none⟩ = some (.slice (some ad4) group.length cg) := (zi0 b3 0).trans rfl; clear b1 b2 b3 hC1 hC2 hC3 hCo hCg ei er ej eo; replace p0 := eq_true p0; replace q0 := eq_true q0; replace p1 := eq_true p1; replace q1 := eq_true q1; replace p2 := eq_true p2; replace q2 := eq_true q2; replace p3 := eq_true p3; replace q3 := eq_true q3; show Calls Tryd.prog 147 #[.int .i64 x, .int .i64 c, .pointer (some ⟨gg, 0, none⟩), .pointer (some ⟨gm, 0, none⟩), .pointer (some ⟨go, 0, none⟩)] W fun e W' => e = .returned (.int .i64 r) ∧ Below W.heap.size W W'; go_enter Tryd.func147, Tryd.ntmps147; go_wp2
 repeat (go_quiet (fail); try go_wp2)
 go_ret; exact ⟨rfl, by repeat (first | exact Below.refl _ _ | apply zg0 | apply yf0)⟩
def accT (ac : List Bool) (p : Int × Int) : Option Bool := if 0 ≤ p.2 then at1 false ac p.1 else some false
theorem xd2 {w : World} {gm : Nat} {tapes start : Int} {ac : List Bool} {ns : List (List Int)} (hm : MachAt w gm tapes start ac ns) :
  CloOK Tryd.prog w 139 #[.pointer (some ⟨gm, 0, none⟩)] (fun x : Int × Int => #[.agg #[.int .i64 x.1, .int .i64 x.2]]) (accT ac) Value.bool := by
 refine ⟨⟨_, Tryd.func139, by kernel_rfl, rfl⟩, fun x r W hb h => ?_⟩; obtain ⟨Aa, ca, An, cn, b1, hC1, hC2⟩ := hm.below hb; clear hm hb; obtain ⟨s, p⟩ := x; have h' : (if 0 ≤ p then at1 false ac s else some false) = some r := h; clear h; show Calls Tryd.prog 139 #[.agg #[.int .i64 s, .int .i64 p], .pointer (some ⟨gm, 0, none⟩)] W fun e W' => e = .returned (.bool r) ∧ Below W.heap.size W W'; by_cases c : 0 ≤ p
 ·rw [if_pos c] at h'; obtain ⟨p0, q0, e0⟩ := xe0 h'; obtain ⟨ad1, e1, hx1⟩ := Kd.xv0 hC1 s p0 q0; subst e1; rw [show rdOf false ac s = r from e0.symm] at hx1; obtain ⟨-, -, m2, -⟩ := bc4 b1; have m2' : (W.alloc (.cells #[.int .i64 s, .int .i64 p] 128)).cell? ⟨gm, 2, none⟩ = some (.slice (some ad1) ac.length ca) := zb0 (zp0 (Below.refl _ _) _) m2; have hx1' : (W.alloc (.cells #[.int .i64 s, .int .i64 p] 128)).cell? (ad1.add s.toNat) = some (.bool r) := zb0 (zp0 (Below.refl _ _) _) hx1; clear m2 hx1; have c1 : decide (p ≥ 0) = true := decide_eq_true c; have c2 : decide (0 ≤ p) = true := decide_eq_true c; clear b1 hC1 hC2 h' e0 c; replace p0 := eq_true p0; replace q0 := eq_true q0; go_enter Tryd.func139, Tryd.ntmps139; go_wp2
  repeat (go_quiet (fail); try go_wp2)
  go_ret; exact ⟨rfl, by repeat (first | exact Below.refl _ _ | apply zp0 | apply zg0 | apply yf0)⟩
 ·rw [if_neg c] at h'; obtain rfl := Option.some.inj h'; have c1 : decide (p ≥ 0) = false := decide_eq_false c; have c2 : decide (0 ≤ p) = false := decide_eq_false c; clear b1 hC1 hC2 h' c; go_enter Tryd.func139, Tryd.ntmps139; go_wp2
  repeat (go_quiet (fail); try go_wp2)
  go_ret; exact ⟨rfl, by repeat (first | exact Below.refl _ _ | apply zp0 | apply zg0 | apply yf0)⟩
def nextT (pads : List Int) (ns : List (List Int)) (x : Int × Int) (c : Int) : Option (Int × Int) :=
 if x.2 < 0 then some (0, -1) else (at1 0 pads c).bind fun pc => if bits .andNot .i64 x.2 pc = 0 then ((at1 [] ns x.1).bind fun row => (at1 0 row c).bind fun q => some (q, pc)) else some (0, -1)
theorem xc2 {w : World} {gm gp : Nat} {tapes start : Int} {ac : List Bool} {ns : List (List Int)} {pads : List Int} (hm : MachAt w gm tapes start ac ns) (hp : VarAt w gp pads) :
  CloOK Tryd.prog w 140 #[.pointer (some ⟨gp, 0, none⟩), .pointer (some ⟨gm, 0, none⟩)] (fun x : (Int × Int) × Int => #[.agg #[.int .i64 x.1.1, .int .i64 x.1.2], .int .i64 x.2]) (fun x => nextT pads ns x.1 x.2) (fun r : Int × Int => .agg #[.int .i64 r.1, .int .i64 r.2]) := by
 refine ⟨⟨_, Tryd.func140, by kernel_rfl, rfl⟩, fun x r W hb h => ?_⟩; obtain ⟨Aa, ca, An, cn, b1, hC1, hC2⟩ := hm.below hb; obtain ⟨Ap, cp, b2, hCp⟩ := hp.below hb; clear hm hp hb; obtain ⟨⟨s, p⟩, c⟩ := x; have h' : nextT pads ns (s, p) c = some r := h; clear h; unfold nextT at h'; show Calls Tryd.prog 140 #[.agg #[.int .i64 s, .int .i64 p], .int .i64 c, .pointer (some ⟨gp, 0, none⟩), .pointer (some ⟨gm, 0, none⟩)] W fun e W' => e = .returned (.agg #[.int .i64 r.1, .int .i64 r.2]) ∧ Below W.heap.size W W'; have HW : ∀ n, Below W.heap.size W (((W.alloc (.cells #[.int .i64 s, .int .i64 p] 128)).alloc (.cells #[.int .i64 0, .int .i64 0] 128)).drewN n) := fun n => zg0 (((Below.refl _ W).alloc (Nat.le_refl _) _).alloc (by simp) _) n; by_cases c0 : p < 0
 ·rw [if_pos c0] at h'; obtain rfl := Option.some.inj h'; have c1 : decide (p < 0) = true := decide_eq_true c0; clear h' c0 b1 b2 hC1 hC2 hCp; go_enter Tryd.func140, Tryd.ntmps140; go_wp2
  repeat (go_quiet (fail); try go_wp2)
  refine bodyPost_ret (v := .agg #[.int .i64 0, .int .i64 (-1)]) (by simp [results, Tryd.results140, go_sem]) rfl ⟨rfl, ?_⟩; exact ((HW _).setCell (by simp) _).setCell (by simp) _
 ·rw [if_neg c0] at h'; have c1 : decide (p < 0) = false := decide_eq_false c0; obtain ⟨pc, h1, h'⟩ := oB h'; obtain ⟨p0, q0, e0⟩ := xe0 h1; obtain ⟨ad4, e4, hx4⟩ := Kd.at_int hCp c p0 q0; subst e4; rw [show rd pads c = pc from e0.symm] at hx4; clear h1 e0 c0; generalize hWE : ((W.alloc (.cells #[.int .i64 s, .int .i64 p] 128)).alloc (.cells #[.int .i64 0, .int .i64 0] 128)) = WE at HW; (have hbE : Below W.heap.size W WE := by rw [← hWE]; exact ((Below.refl _ W).alloc (Nat.le_refl _) _).alloc (by simp) _); have x4 : WE.cell? (ad4.add c.toNat) = some (.int .i64 pc) := zb0 hbE hx4; have v0 : WE.cell? ⟨gp, 0, none⟩ = some (.slice (some ad4) pads.length cp) := zb0 hbE ((zi0 b2 0).trans rfl); (have k0 : WE.heap[W.heap.size]? = some (.cells #[.int .i64 s, .int .i64 p] 128 (0, 0)) := by rw [← hWE]; exact ya0 (ym0 W _) _); (have k1 : WE.heap[W.heap.size + 1]? = some (.cells #[.int .i64 0, .int .i64 0] 128 (0, 0)) := by rw [← hWE]; have q_ := ym0 (W.alloc (.cells #[.int .i64 s, .int .i64 p] 128)) (.cells #[.int .i64 0, .int .i64 0] 128); simpa using q_); replace p0 := eq_true p0; replace q0 := eq_true q0; by_cases cz : bits .andNot .i64 p pc = 0
  ·rw [if_pos cz] at h'; obtain ⟨row, h2, h'⟩ := oB h'; obtain ⟨q, h3, h'⟩ := oB h'; obtain rfl := Option.some.inj h'; obtain ⟨p1, q1, e1⟩ := xe0 h2; obtain ⟨p2, q2, e2⟩ := xe0 h3; obtain ⟨ad2, A2, c2, e2', hx2, hl2, hC3⟩ := kh0 hC2 s p1 q1; rw [show rdR ns s = row from e1.symm] at hx2 hl2 hC3; obtain ⟨ad3, e3, hx3⟩ := Kd.at_int hC3 c p2 q2; subst e2'; subst e3; rw [show rd row c = q from e2.symm] at hx3; have m3 : WE.cell? ⟨gm, 3, none⟩ = some (.slice (some ad2) ns.length cn) := zb0 hbE ((zi0 b1 3).trans rfl); have x2 : WE.cell? (ad2.add s.toNat) = some (.slice (some ad3) row.length c2) := zb0 hbE hx2; have x3 : WE.cell? (ad3.add c.toNat) = some (.int .i64 q) := zb0 hbE hx3; have c3 : (bits .andNot .i64 p pc != 0) = false := bne_eq_false_iff_eq.mpr cz; have y0 := (zi0 k0 0).trans rfl; replace y0 : WE.cell? ⟨W.heap.size, 0, none⟩ = some (.int .i64 s) := y0; have y1 : WE.cell? ⟨W.heap.size, 1, none⟩ = some (.int .i64 p) := (zi0 k0 1).trans rfl; replace p1 := eq_true p1; replace q1 := eq_true q1; replace p2 := eq_true p2; replace q2 := eq_true q2; clear h2 h3 h' e1 e2 hl2 hx2 hx3 hx4 hC1 hC2 hC3 hCp b1 b2 cz; go_enter Tryd.func140, Tryd.ntmps140; go_wp2
   try rw [hWE]
   repeat (go_quiet (fail); try go_wp2)
   have hd : Below WE.heap.size WE ((WE.drewN nq).drew) := yf0 (zg0 (Below.refl _ _) nq); have HE := am (HW nq); have K1 := am (ze0 k1 hd); have HD := am (show Below W.heap.size W ((WE.drewN nq).drew) from yf0 (HW nq)); refine start_ (n := 15) (S := fun w' => w'.cell? ⟨gm, 3, none⟩ = some (.slice (some ad2) ns.length cn) ∧ w'.cell? ⟨W.heap.size, 0, none⟩ = some (.int .i64 s) ∧ w'.cell? (ad2.add s.toNat) = some (.slice (some ad3) row.length c2) ∧ w'.cell? (ad3.add c.toNat) = some (.int .i64 q) ∧ w'.cell? ⟨gp, 0, none⟩ = some (.slice (some ad4) pads.length cp) ∧ w'.cell? (ad4.add c.toNat) = some (.int .i64 pc)) (ds := [14]) #[false, false, false, false, false, false, false, false, false, false, false, false, false, false, false] (by kernel_rfl) rfl rfl ⟨zb0 hd m3, zb0 hd y0, zb0 hd x2, zb0 hd x3, zb0 hd v0, zb0 hd x4⟩ (fun hHeld => ?_); clear hd m3 y0 y1 x2 x3 v0 x4 k0 k1 hWE HW HE hbE
   generalize (WE.drewN nq).drew = w3 at K1 HD hHeld ⊢
   refine pureA 0 (some 21) (bl 15 1) rfl rfl (h := ?_); refine takeA6 1 (some 22) (bl 15 3) hHeld rfl rfl (h := ?_); refine pureA 2 (some 23) (bl 15 7) rfl rfl (h := ?_); refine takeA6 3 (some 24) (bl 15 15) hHeld rfl rfl (h := ?_); refine pureA 4 (some 25) (bl 15 31) rfl rfl (h := ?_); refine takeA6 5 (some 26) (bl 15 63) hHeld rfl rfl (h := ?_); refine pureA 6 (some 27) (bl 15 127) rfl rfl (h := ?_); refine pureA 7 (some 28) (bl 15 255) rfl rfl (h := ?_); refine takeA6 8 (some 29) (bl 15 511) hHeld rfl rfl (h := ?_); refine takeA6 9 (some 30) (bl 15 1023) hHeld rfl rfl (h := ?_); refine pureA 10 (some 31) (bl 15 2047) rfl rfl (h := ?_); refine pureA 11 (some 32) (bl 15 4095) rfl rfl (h := ?_); refine takeA6 12 (some 33) (bl 15 8191) hHeld rfl rfl (h := ?_); refine pureA 13 (some 34) (bl 15 16383) rfl rfl (h := ?_); refine last_ (i := 14) (N := none) (bl 15 32767) rfl rfl (by kernel_rfl) (by decide) (fun K hK => ?_); have z0 : w3.cell? ⟨W.heap.size + 1, 0, none⟩ = some (.int .i64 0) := (zi0 K1.out 0).trans rfl; have z1 : w3.cell? ⟨W.heap.size + 1, 1, none⟩ = some (.int .i64 0) := (zi0 K1.out 1).trans rfl; have f0 := za0 K1.out 0; have f1 := za0 K1.out 1; refine skip_ (w1 := (w3.setCell ⟨W.heap.size + 1, 0, none⟩ (.int .i64 q)).setCell ⟨W.heap.size + 1, 1, none⟩ (.int .i64 pc)) (by rfl) rfl ?_ ?_
   ·go_simp
   refine hK.out _ _ ?_; clear hK K; refine done_ (by kernel_rfl) ?_; go_wp2; refine bodyPost_ret (v := .agg #[.int .i64 q, .int .i64 pc]) (by simp [results, Tryd.results140, go_sem, z0, z1]) rfl ⟨rfl, ?_⟩; exact (HD.out.setCell (by simp) _).setCell (by simp) _
  ·rw [if_neg cz] at h'; obtain rfl := Option.some.inj h'; have c3 : (bits .andNot .i64 p pc != 0) = true := bne_iff_ne.mpr cz; have y1 : WE.cell? ⟨W.heap.size, 1, none⟩ = some (.int .i64 p) := (zi0 k0 1).trans rfl; have z0 : WE.cell? ⟨W.heap.size + 1, 0, none⟩ = some (.int .i64 0) := (zi0 k1 0).trans rfl; have z1 : WE.cell? ⟨W.heap.size + 1, 1, none⟩ = some (.int .i64 0) := (zi0 k1 1).trans rfl; have f0 := za0 k1 0; have f1 := za0 k1 1; clear h' hx4 hC1 hC2 hCp b1 b2 cz; go_enter Tryd.func140, Tryd.ntmps140; go_wp2
   try rw [hWE]
   repeat (go_quiet (fail); try go_wp2)
   refine bodyPost_ret (v := .agg #[.int .i64 0, .int .i64 (-1)]) (by simp [results, Tryd.results140, go_sem, z0, z1]) rfl ⟨rfl, ?_⟩; exact ((HW _).setCell (by simp) _).setCell (by simp) _
def CpJ (w W : World) (r0 gb : Nat) (v : Value) (l2 : List Bool) : Prop := Below w.heap.size w W ∧ w.heap.size ≤ gb ∧ ∃ own, Sep own W [(1, blkP r0 (.cells #[.int .i64 0, .int .i64 0, .slice none 0 0, .slice none 0 0] 29 (0, 0))), (2, rowP Kd.bool 4 w.heap.size v l2), (3, blkP gb (.cells #[.int .i64 0, .int .i64 0, .slice none 0 0, .slice none 0 0] 29 (0, 0)))]
def yh0.f (a0 : Int) (a1 : Int) (a2 : Int) : Option (Bool) := if a0 ≥ a1 then (some (decide (a0 ≤ a2))) else (some false)
theorem yh0.calls (a0 : Int) (a1 : Int) (a2 : Int) (r : Bool) (w : World) (h : yh0.f a0 a1 a2 = some r) :
  Calls Tryd.prog 74 #[.int .i64 a0, .int .i64 a1, .int .i64 a2] w fun e w' => e = .returned (.bool r) ∧ Drawn0 w w' := by
 have H : (if a0 ≥ a1 then (some (decide (a0 ≤ a2))) else (some false)) = some r := h; clear h; by_cases c4 : a0 ≥ a1
 ·rw [if_pos c4] at H; have c4b0 : decide (a1 ≤ a0) = true := decide_eq_true c4; clear c4; obtain rfl := Option.some.inj H; go_enter Tryd.func74, Tryd.ntmps74; go_wp2; go_ret; exact ⟨tF, tD⟩
 ·rw [if_neg c4] at H; have c4b0 : decide (a1 ≤ a0) = false := decide_eq_false c4; clear c4; obtain rfl := Option.some.inj H; go_enter Tryd.func74, Tryd.ntmps74; go_wp2; go_ret; exact ⟨tF, tD⟩
def zt0.l0 : Nat → Int → Int → Option (Int)
 | 0, _, _ => none
 | k + 1, x0, x3 => if x0 > 0 then (zt0.l0 k (wrap64 (x0 - 1)) (wrap64 (3 * x3))) else (some x3)
def zt0.f (k : Nat) (a0 : Int) : Option (Int) := zt0.l0 k a0 1
theorem zt0.mono_l : ∀ k, (∀ y0 y1, LeO (zt0.l0 k y0 y1) (zt0.l0 (k + 1) y0 y1))
 | 0 => fun _ _ r h => by simp [zt0.l0] at h
 | k + 1 => by
  have ih0 := zt0.mono_l k
  ·intro y0 y1; unfold zt0.l0
   repeat' first
   | (with_reducible exact ih0 _ _)
   | (with_reducible exact LeO.refl _)
   | (with_reducible exact LeO.none _)
   | (with_reducible refine LeO.ite ?_ ?_)
   | (with_reducible refine LeO.bind ?_ (fun _ => ?_))
   | exact ih0 _ _
   | exact LeO.none _
   | refine LeO.ite ?_ ?_
   | refine LeO.bind ?_ (fun _ => ?_)
theorem zt0.mono : ∀ a0 k, LeO (zt0.f k a0) (zt0.f (k + 1) a0) := by
 intro a0 k; have ih0 := zt0.mono_l k; unfold zt0.f
 repeat' first
   | (with_reducible exact ih0 _ _)
   | (with_reducible exact LeO.refl _)
   | (with_reducible exact LeO.none _)
   | (with_reducible refine LeO.ite ?_ ?_)
   | (with_reducible refine LeO.bind ?_ (fun _ => ?_))
   | exact ih0 _ _
   | exact LeO.none _
   | refine LeO.ite ?_ ?_
   | refine LeO.bind ?_ (fun _ => ?_)
theorem zt0.calls (k : Nat) (a0 : Int) (r : Int) (w : World) (h : zt0.f k a0 = some r) :
  Calls Tryd.prog 123 #[.int .i64 a0] w fun e w' => e = .returned (.int .i64 r) ∧ Drawn0 w w' := by
 have H : (zt0.l0 k a0 1) = some r := h; clear h; have H' := am H; clear H; go_enter Tryd.func123, Tryd.ntmps123; go_wp2
 go_loopg [0, 3] k (fun kq v0 v3 w' => ∃ (x0_1 : Int) (x3_1 : Int), v0 = .int .i64 x0_1 ∧ v3 = .int .i64 x3_1 ∧ Aside0 (zt0.l0 kq x0_1 x3_1 = some r) ∧ Aside0 (kq ≤ k) ∧ Drawn0 w w')
 case atStart => exact ⟨(a0), (1), (tF), (tF), H', ⟨Nat.le_refl _⟩, tD⟩
 case round =>
  clear H'
  try clear c1
  obtain ⟨x0_1, x3_1, rfl, rfl, HA, HK1, ⟨m1, rfl⟩⟩ := hrel
  cases gk with
  | zero => exact absurd HA.out (by simp [zt0.l0])
  | succ k1 =>
   have H := HA.out; clear HA; simp only [zt0.l0] at H; by_cases c2 : x0_1 > 0
   ·rw [if_pos c2] at H; have c2b0 : decide (0 < x0_1) = true := decide_eq_true c2; clear c2; have H' := am H; clear H; go_wp2; go_roundg k1
    case measure => have := HK1.out; omega
    case rel => exact ⟨(wrap64 (x0_1 - 1)), (wrap64 (3 * x3_1)), (tF), (tF), H', ⟨by have := HK1.out; omega⟩, tD⟩
   ·rw [if_neg c2] at H; have c2b0 : decide (0 < x0_1) = false := decide_eq_false c2; clear c2; obtain rfl := Option.some.inj H; go_wp2; go_ret; exact ⟨tF, tD⟩
def zw0.f (k : Nat) (a0 : Int) : Option (Int) := (zt0.f k a0).bind fun t106 => (some (wrap64 (t106 - 1)))
theorem zw0.mono : ∀ a0 k, LeO (zw0.f k a0) (zw0.f (k + 1) a0) := by
 intro a0 k; unfold zw0.f
 repeat' first
   | (with_reducible exact zt0.mono _ _)
   | (with_reducible exact LeO.refl _)
   | (with_reducible exact LeO.none _)
   | (with_reducible refine LeO.ite ?_ ?_)
   | (with_reducible refine LeO.bind ?_ (fun _ => ?_))
   | exact zt0.mono _ _
   | exact LeO.none _
   | refine LeO.ite ?_ ?_
   | refine LeO.bind ?_ (fun _ => ?_)
theorem zw0.calls (k : Nat) (a0 : Int) (r : Int) (w : World) (h : zw0.f k a0 = some r) :
  Calls Tryd.prog 76 #[.int .i64 a0] w fun e w' => e = .returned (.int .i64 r) ∧ Drawn0 w w' := by
 have H : ((zt0.f k a0).bind fun t106 => (some (wrap64 (t106 - 1)))) = some r := h; clear h; obtain ⟨t106, A20, H⟩ := oB H; replace H : (some (wrap64 (t106 - 1))) = some r := H; have A2 := am A20; clear A20; obtain rfl := Option.some.inj H; go_enter Tryd.func76, Tryd.ntmps76
 go_wp2_with (first | ((with_reducible refine zu0 (f := 123) rfl ?_); refine goesLA (some 4) Tryd.func123 #[.int .i64 a0] rfl rfl rfl (h := ?_); (with_reducible refine (zt0.calls k a0 t106 _ A2.out).mono ?_); rintro e w' ⟨rfl, ⟨nd, rfl⟩⟩; refine ⟨_, rfl, ?_⟩))
 go_ret; exact ⟨tF, tD⟩
end Go.Proofs.YtocfcpicleomcaaDoor.X
