import Derived.Test.YtbkcllfgolmloaaDoorIE2
import Derived.Test.YtbkcllfgolmloaaDoorIE3
import Derived.Test.YtbkcllfgolmloaaDoorIE7
-- Written by a program of this claim's author, out of the translation.
namespace Go.Proofs.YtbkcllfgolmloaaDoor.X
open Go.RowKit Go.Proofs.YtbkcllfgolmloaaDoorW.PrintWords Go.Proofs.YtbkcllfgolmloaaDoorW.PrintLast Go.Proofs.YtbkcllfgolmloaaDoorW.PrintMore
attribute [local go_sem] max2_int min2_int max_two min_two max_three min_three max_four min_four   -- for this text's walks alone
set_option linter.unusedVariables false
set_option linter.unusedSimpArgs false
mutual
def spec_l01First.l0 : Nat → List Bool → List Int → List Int → List Int → Int → Int → Int → List Bool → List (List Int) → Option (List Int × Bool × Int × Int)
 | 0, _, _, _, _, _, _, _, _, _ => none
 | k + 1, x4, x5, x6, x7, x8, x1000, x1001, x1002, x1003 => if x8 < (x5.length : Int) then (if 0 ≤ x8 then (if 0 ≤ (rd x5 x8) then (if (rd x5 x8) < (x1002.length : Int) then (if rdOf false x1002 (rd x5 x8) = true then (spec_l01First.l1 k x6 x7 (([] : List Int)) x8 x1000 x1001 x1002 x1003) else (spec_l01First.l3 k x4 x5 x6 x7 x8 0 x1000 x1001 x1002 x1003)) else (none)) else (none)) else (none)) else (some ((([] : List Int)), false, x1000, x1001))
def spec_l01First.l1 : Nat → List Int → List Int → List Int → Int → Int → Int → List Bool → List (List Int) → Option (List Int × Bool × Int × Int)
 | 0, _, _, _, _, _, _, _, _ => none
 | k + 1, x6, x7, x9, x10, x1000, x1001, x1002, x1003 => if 0 ≤ x10 then (if x10 < (x6.length : Int) then (if (rd x6 x10) ≥ 0 then (if x10 < (x7.length : Int) then (if x9.length < 17592186044416 then (spec_l01First.l1 k x6 x7 (x9 ++ [rd x7 x10]) (rd x6 x10) x1000 x1001 x1002 x1003) else (none)) else (none)) else (spec_l01First.l2 k x9 (([] : List Int)) (wrap64 ((x9.length : Int) - 1)) x1000 x1001 x1002 x1003)) else (none)) else (none)
def spec_l01First.l2 : Nat → List Int → List Int → Int → Int → Int → List Bool → List (List Int) → Option (List Int × Bool × Int × Int)
 | 0, _, _, _, _, _, _, _ => none
 | k + 1, x9, x11, x12, x1000, x1001, x1002, x1003 => if x12 ≥ 0 then (if 0 ≤ x12 then (if x12 < (x9.length : Int) then (if x11.length < 17592186044416 then (spec_l01First.l2 k x9 (x11 ++ [rd x9 x12]) (wrap64 (x12 - 1)) x1000 x1001 x1002 x1003) else (none)) else (none)) else (none)) else (some (x11, true, x1000, x1001))
def spec_l01First.l3 : Nat → List Bool → List Int → List Int → List Int → Int → Int → Int → Int → List Bool → List (List Int) → Option (List Int × Bool × Int × Int)
 | 0, _, _, _, _, _, _, _, _, _, _ => none
 | k + 1, x4, x5, x6, x7, x8, x13, x1000, x1001, x1002, x1003 => if 0 ≤ x8 then (if x8 < (x5.length : Int) then (if 0 ≤ (rd x5 x8) then (if (rd x5 x8) < (x1003.length : Int) then (if x13 < ((rd_L2 x1003 (rd x5 x8)).length : Int) then (if 0 ≤ x13 then (if 0 ≤ (rd (rd_L2 x1003 (rd x5 x8)) x13) then (if (rd (rd_L2 x1003 (rd x5 x8)) x13) < (x4.length : Int) then (if (rdOf false x4 (rd (rd_L2 x1003 (rd x5 x8)) x13) = true) then (spec_l01First.l3 k x4 x5 x6 x7 x8 (wrap64 (x13 + 1)) x1000 x1001 x1002 x1003) else (if x5.length < 17592186044416 then (if x6.length < 17592186044416 then (if x7.length < 17592186044416 then (spec_l01First.l3 k (x4.set ((rd (rd_L2 x1003 (rd x5 x8)) x13) : Int).toNat true) (x5 ++ [rd (rd_L2 x1003 (rd x5 x8)) x13]) (x6 ++ [x8]) (x7 ++ [x13]) x8 (wrap64 (x13 + 1)) x1000 x1001 x1002 x1003) else (none)) else (none)) else (none))) else (none)) else (none)) else (none)) else (spec_l01First.l0 k x4 x5 x6 x7 (wrap64 (x8 + 1)) x1000 x1001 x1002 x1003)) else (none)) else (none)) else (none)) else (none)
end
def spec_l01First.f (k : Nat) (s0_0 : Int) (s0_1 : Int) (s0_2 : List Bool) (s0_3 : List (List Int)) : Option (List Int × Bool × Int × Int) := if 0 ≤ (s0_2.length : Int) then (if ((s0_2.length : Int) : Int).toNat ≤ 281474976710656 then ((some (List.replicate ((s0_2.length : Int) : Int).toNat false : List Bool)).bind fun y806 => (if 0 ≤ s0_1 then (if s0_1 < (y806.length : Int) then (spec_l01First.l0 k (y806.set (s0_1 : Int).toNat true) (([s0_1] : List Int)) (([(-1)] : List Int)) (([0] : List Int)) 0 s0_0 s0_1 s0_2 s0_3) else (none)) else (none))) else (none)) else (none)
set_option maxHeartbeats 8000000 in
set_option maxRecDepth 100000 in
theorem spec_l01First.calls (k : Nat) (g : Nat) (s0_0 : Int) (s0_1 : Int) (s0_2 : List Bool) (s0_3 : List (List Int)) (r1 : List Int) (r2 : Bool) (r3 : Int) (r4 : Int) (w0 w : World) (hI : IsS28 w0 w g s0_0 s0_1 s0_2 s0_3) (hB : Below w0.heap.size w0 w) (h : spec_l01First.f k s0_0 s0_1 s0_2 s0_3 = some (r1, r2, r3, r4)) :
  Calls Tryd.prog 89 #[.pointer (some ⟨g, 0, none⟩)] w fun e w' => ∃ v0_ : Value, e = .returned (.tuple #[v0_, .bool r2]) ∧ Kd.R (Kd.int .i64) 2 w' w.heap.size (fun _ => True) v0_ r1 ∧ IsS28 w0 w' g r3 r4 s0_2 s0_3 ∧ Below w0.heap.size w0 w' ∧ KeepBut w w' g none := by
 have HI0 := Aside0.mk hI
 have HK := Aside0.mk (KeepBut.refl w g none)
 have HL := Aside0.mk hB.size
 clear hI
 have HW0 := Aside0.mk hB.size
 have HB := Aside0.mk hB
 clear hB
 have H : (if 0 ≤ (s0_2.length : Int) then (if ((s0_2.length : Int) : Int).toNat ≤ 281474976710656 then ((some (List.replicate ((s0_2.length : Int) : Int).toNat false : List Bool)).bind fun y806 => (if 0 ≤ s0_1 then (if s0_1 < (y806.length : Int) then (spec_l01First.l0 k (y806.set (s0_1 : Int).toNat true) (([s0_1] : List Int)) (([(-1)] : List Int)) (([0] : List Int)) 0 s0_0 s0_1 s0_2 s0_3) else (none)) else (none))) else (none)) else (none)) = some (r1, r2, r3, r4) := h
 clear h
 by_cases c2 : 0 ≤ (s0_2.length : Int)
 ·rw [if_pos c2] at H
  have c2b0 := eq_true c2
  have c2b1 : decide (0 ≤ (s0_2.length : Int)) = true := decide_eq_true c2
  clear c2
  by_cases c3 : ((s0_2.length : Int) : Int).toNat ≤ 281474976710656
  ·rw [if_pos c3] at H
   have c3b0 := eq_true c3
   have c3b1 : decide (((s0_2.length : Int) : Int).toNat ≤ 281474976710656) = true := decide_eq_true c3
   clear c3
   obtain ⟨y806, hy806⟩ : ∃ y_ : List Bool, y_ = (List.replicate ((s0_2.length : Int) : Int).toNat false) := ⟨_, rfl⟩
   replace H : (if 0 ≤ s0_1 then (if s0_1 < (y806.length : Int) then (spec_l01First.l0 k (y806.set (s0_1 : Int).toNat true) (([s0_1] : List Int)) (([(-1)] : List Int)) (([0] : List Int)) 0 s0_0 s0_1 s0_2 s0_3) else (none)) else (none)) = some (r1, r2, r3, r4) := by first | (rw [hy806]; with_reducible exact H) | (have H2_ := (Option.bind_some _ _).symm.trans H; rw [hy806]; with_reducible exact H2_) | (have H2_ := (Option.bind_some _ _).symm.trans H; with_reducible exact H2_) | with_reducible exact H | (rw [hy806]; exact H) | exact H
   have Ny806 := Aside0.mk hy806
   clear hy806
   by_cases c4 : 0 ≤ s0_1
   ·rw [if_pos c4] at H
    have c4b0 : decide (0 ≤ s0_1) = true := decide_eq_true c4
    clear c4
    by_cases c5 : s0_1 < (y806.length : Int)
    ·rw [if_pos c5] at H
     have c5b0 : decide (s0_1 < (y806.length : Int)) = true := decide_eq_true c5
     clear c5
     obtain ⟨y809, hy809⟩ : ∃ y_ : List Bool, y_ = (y806.set (s0_1 : Int).toNat true) := ⟨_, rfl⟩
     replace H : (spec_l01First.l0 k y809 (([s0_1] : List Int)) (([(-1)] : List Int)) (([0] : List Int)) 0 s0_0 s0_1 s0_2 s0_3) = some (r1, r2, r3, r4) := by first | (rw [hy809]; with_reducible exact H) | (have H2_ := (Option.bind_some _ _).symm.trans H; rw [hy809]; with_reducible exact H2_) | (have H2_ := (Option.bind_some _ _).symm.trans H; with_reducible exact H2_) | with_reducible exact H | (rw [hy809]; exact H) | exact H
     have Ny809 := Aside0.mk hy809
     clear hy809
     obtain ⟨y810, hy810⟩ : ∃ y_ : List Int, y_ = (([s0_1] : List Int)) := ⟨_, rfl⟩
     replace H : (spec_l01First.l0 k y809 y810 (([(-1)] : List Int)) (([0] : List Int)) 0 s0_0 s0_1 s0_2 s0_3) = some (r1, r2, r3, r4) := by first | (rw [hy810]; with_reducible exact H) | (have H2_ := (Option.bind_some _ _).symm.trans H; rw [hy810]; with_reducible exact H2_) | (have H2_ := (Option.bind_some _ _).symm.trans H; with_reducible exact H2_) | with_reducible exact H | (rw [hy810]; exact H) | exact H
     have Ny810 := Aside0.mk hy810
     clear hy810
     obtain ⟨y813, hy813⟩ : ∃ y_ : List Int, y_ = (([(-1)] : List Int)) := ⟨_, rfl⟩
     replace H : (spec_l01First.l0 k y809 y810 y813 (([0] : List Int)) 0 s0_0 s0_1 s0_2 s0_3) = some (r1, r2, r3, r4) := by first | (rw [hy813]; with_reducible exact H) | (have H2_ := (Option.bind_some _ _).symm.trans H; rw [hy813]; with_reducible exact H2_) | (have H2_ := (Option.bind_some _ _).symm.trans H; with_reducible exact H2_) | with_reducible exact H | (rw [hy813]; exact H) | exact H
     have Ny813 := Aside0.mk hy813
     clear hy813
     obtain ⟨y816, hy816⟩ : ∃ y_ : List Int, y_ = (([0] : List Int)) := ⟨_, rfl⟩
     replace H : (spec_l01First.l0 k y809 y810 y813 y816 0 s0_0 s0_1 s0_2 s0_3) = some (r1, r2, r3, r4) := by first | (rw [hy816]; with_reducible exact H) | (have H2_ := (Option.bind_some _ _).symm.trans H; rw [hy816]; with_reducible exact H2_) | (have H2_ := (Option.bind_some _ _).symm.trans H; with_reducible exact H2_) | with_reducible exact H | (rw [hy816]; exact H) | exact H
     have Ny816 := Aside0.mk hy816
     clear hy816
     have H' := Aside0.mk H
     clear H
     obtain ⟨ASz7_2, cSz7_2, ASz7_3, cSz7_3, HGz7, hgz7, HSz7_2, HSz7_3⟩ := HI0.out
     have hcz7_0 := cellS28_0 HGz7
     have hcz7_1 := cellS28_1 HGz7
     have hcz7_2 := cellS28_2 HGz7
     have hcz7_3 := cellS28_3 HGz7
     have hfz7_0 := blk_frozen HGz7 0
     have hfz7_1 := blk_frozen HGz7 1
     clear HGz7 hgz7
     go_enter Tryd.func89, Tryd.ntmps89
     go_wp2_with (first | ((with_reducible refine gate_dst (N := 20) rfl ?_); refine Kd.R_make Kd.bool _ 4 rfl (N := 20) rfl 22 _ _ rfl (s0_2.length : Int) rfl rfl Tryd.underlying22 (.bool false) 1 info4 rfl (by decide) (by omega) false (ok := fun _ => True) (okp := fun _ => True) rfl (fun _ hk => hk) trivial (of_decide_eq_true (by first | (with_reducible assumption) | assumption)) (Nat.le_trans (Nat.mul_le_mul_right _ (of_decide_eq_true (by first | (with_reducible assumption) | assumption) : (s0_2.length : Int).toNat ≤ 281474976710656)) (by omega)) (Below.refl _ _) (Nat.le_refl _) ?_; intro v807 w8 ho9 hb hg_ hnew_; clear hg_ hnew_; (first | rw [← Ny806.out] at ho9 | (simp only [Int.reduceToNat] at ho9; rw [← Ny806.out] at ho9)); have n0_ := Aside0.mk (Kd.R_lower ho9 (keep_size (w := w) (g := g) (row := none) (by repeat (first | (with_reducible first | exact HK.out | apply KeepBut.set_ | apply keep_drewN | apply keep_drew | apply keep_alloc) | exact HK.out)))); have n1_ := Aside0.mk (IsS28.below (by repeat (first | (with_reducible first | exact HI0.out | apply IsS28.alloc | apply IsS28.drewN | apply IsS28.drew | apply IsS28.set_0 | apply IsS28.set_1) | exact HI0.out)) hb); have n2_ := Aside0.mk (KeepBut.trans (by repeat (first | (with_reducible first | exact HK.out | apply KeepBut.set_ | apply keep_drewN | apply keep_drew | apply keep_alloc) | exact HK.out)) (KeepBut.of_below hb g none) (.inl rfl)); have n3_ := Aside0.mk (below_step (by repeat (first | (with_reducible first | exact HB.out | apply below_alloc | apply pw_below_drewN | apply below_drew1 | refine below_set ?_ (IsS28.ge HI0.out)) | exact HB.out)) hb); clear HI0; clear HK; clear HB; have HO808 := n0_; have HI0 := n1_; have HK := n2_; have HB := n3_; clear n0_ n1_ n2_ n3_; clear hb ho9; obtain ⟨ASz10_2, cSz10_2, ASz10_3, cSz10_3, HGz10, hgz10, HSz10_2, HSz10_3⟩ := HI0.out; have hcz10_0 := cellS28_0 HGz10; have hcz10_1 := cellS28_1 HGz10; have hcz10_2 := cellS28_2 HGz10; have hcz10_3 := cellS28_3 HGz10; have hfz10_0 := blk_frozen HGz10 0; have hfz10_1 := blk_frozen HGz10 1; clear HGz10 hgz10; have p6 : 0 ≤ (s0_1 : Int) := of_decide_eq_true (by first | (with_reducible assumption) | assumption); have q6 : (s0_1 : Int) < ((y806.length : Int) : Int) := of_decide_eq_true (by first | (with_reducible assumption) | assumption); obtain ⟨go6, co6, eo6, gb6, gl6, cl6, HG6⟩ := Kd.R_form HO808.out (by omega); (first | cases eo6 | (injection eo6 with ea_ en_ ec_; (first | subst ea_ | (injection ea_ with ea_; subst ea_)); subst ec_; clear en_)); have GB6 := Aside0.mk gb6; have GG6 := Aside0.mk HG6; clear gb6 gl6 HG6; obtain ⟨hx6_0, hf6_0⟩ := Kd.R_celln false HO808.out (s0_1 : Int) p6 q6; replace p6 := eq_true p6; replace q6 := eq_true q6; obtain ⟨hy11_, hz11_⟩ := Kd.R_celln false HO808.out (s0_1 : Int) (of_decide_eq_true (by first | (with_reducible assumption) | assumption)) (of_decide_eq_true (by first | (with_reducible assumption) | assumption)); have HP11 := Kd.R_putg HO808.out (s0_1 : Int) true) | ((with_reducible refine gate_store (t := 4) (p := 26) rfl ?_); (try (rw [drewN_self w8]; generalize hq_ : World.drewN w8 _ = w8; have n0_ := Aside0.mk (Kd.R_at hq_ HO808.out); have n1_ := Aside0.mk (IsS28.at_ hq_ HI0.out); have n2_ := Aside0.mk (keep_at hq_ HK.out); have n3_ := Aside0.mk (below_at hq_ HB.out); clear hq_ HO808 HI0 HK HB; have HO808 := n0_; have HI0 := n1_; have HK := n2_; have HB := n3_; clear n0_ n1_ n2_ n3_; (try (obtain ⟨hy11_, hz11_⟩ := Kd.R_celln false HO808.out (s0_1 : Int) (of_decide_eq_true (by first | (with_reducible assumption) | assumption)) (of_decide_eq_true (by first | (with_reducible assumption) | assumption)))); (try (have HP11 := Kd.R_putg HO808.out (s0_1 : Int) true)))); refine store_event (t := 4) (p := 26) (v := ?vo_w12) (w1 := (w8.setCell ⟨go6, (s0_1 : Int).toNat, none⟩ (.bool true))) ?hg ?ho ?hn ?hr ?_; (case ho => rfl); (case hg => rfl); (case hn => rfl); (case hr => first | (go_simp; done) | (go_simp; rfl)); intro w12 hw; have hg : w8.grownBy w12 (some go6) := (by rw [hw]; exact HP11.2); have hp_ : Kd.R Kd.bool 4 w12 w.heap.size (fun _ => True) (.slice (some ⟨go6, 0, none⟩) y806.length co6) y809 := (by rw [hw, Ny809.out]; exact HP11.1); clear HP11; have n0_ := Aside0.mk (IsS28.grown (by repeat (first | (with_reducible first | exact HI0.out | apply IsS28.alloc | apply IsS28.drewN | apply IsS28.drew | apply IsS28.set_0 | apply IsS28.set_1) | exact HI0.out)) hg (IsS28.own_ne HI0.out HO808.out (by decide))); have n1_ := Aside0.mk (hp_); have n2_ := Aside0.mk ((by rw [hw]; exact below_set (HB.out) (Nat.le_trans HL.out GB6.out) : Below w0.heap.size w0 w12)); have n3_ := Aside0.mk (KeepBut.trans (by repeat (first | (with_reducible first | exact HK.out | apply KeepBut.set_ | apply keep_drewN | apply keep_drew | apply keep_alloc) | exact HK.out)) (KeepBut.of_grown hg g) (Kd.R_base2 HO808.out)); clear HI0; clear HO808; clear HB; clear HK; have HI0 := n0_; have HO808 := n1_; have HB := n2_; have HK := n3_; clear n0_ n1_ n2_ n3_; clear hg hw hp_; obtain ⟨ASz13_2, cSz13_2, ASz13_3, cSz13_3, HGz13, hgz13, HSz13_2, HSz13_3⟩ := HI0.out; have hcz13_0 := cellS28_0 HGz13; have hcz13_1 := cellS28_1 HGz13; have hcz13_2 := cellS28_2 HGz13; have hcz13_3 := cellS28_3 HGz13; have hfz13_0 := blk_frozen HGz13 0; have hfz13_1 := blk_frozen HGz13 1; clear HGz13 hgz13) | ((with_reducible refine gate_dst (N := 31) rfl ?_); refine Kd.R_lit (Kd.int .i64) _ 2 ?hg (N := 31) ?hd (xs := ([s0_1] : List Int)) (inner := [.int .i64 s0_1]) (ok := fun _ => True) (okp := fun _ => True) ?hr ?hp (fun _ hk => hk) trivial (Below.refl _ _) (Nat.le_refl _) (by simp) ?_; (case hd => rfl); (case hg => rfl); (case hr => first | (go_simp; done) | (go_simp; rfl)); (case hp => exact (Reps.one (show Kd.M (Kd.int .i64) _ _ _ s0_1 [.int .i64 s0_1] from rfl) (Reps.none _ _))); intro v811 w14 ho15 hb hg_ hnew_; clear hg_ hnew_; (first | rw [← Ny810.out] at ho15 | (simp only [Int.reduceToNat] at ho15; rw [← Ny810.out] at ho15)); have n0_ := Aside0.mk (Kd.R_below (by (with_reducible repeat (first | apply Kd.R_alloc | apply Kd.R_drewN | apply Kd.R_drew)); exact HO808.out) hb); have n1_ := Aside0.mk (Kd.R_lower ho15 (keep_size (w := w) (g := g) (row := none) (by repeat (first | (with_reducible first | exact HK.out | apply KeepBut.set_ | apply keep_drewN | apply keep_drew | apply keep_alloc) | exact HK.out)))); have n2_ := Aside0.mk (IsS28.below (by repeat (first | (with_reducible first | exact HI0.out | apply IsS28.alloc | apply IsS28.drewN | apply IsS28.drew | apply IsS28.set_0 | apply IsS28.set_1) | exact HI0.out)) hb); have n3_ := Aside0.mk (KeepBut.trans (by repeat (first | (with_reducible first | exact HK.out | apply KeepBut.set_ | apply keep_drewN | apply keep_drew | apply keep_alloc) | exact HK.out)) (KeepBut.of_below hb g none) (.inl rfl)); have n4_ := Aside0.mk (below_step (by repeat (first | (with_reducible first | exact HB.out | apply below_alloc | apply pw_below_drewN | apply below_drew1 | refine below_set ?_ (IsS28.ge HI0.out)) | exact HB.out)) hb); clear HO808; clear HI0; clear HK; clear HB; have HO808 := n0_; have HO812 := n1_; have HI0 := n2_; have HK := n3_; have HB := n4_; clear n0_ n1_ n2_ n3_ n4_; clear hb ho15) | ((with_reducible refine gate_dst (N := 32) rfl ?_); refine Kd.R_lit (Kd.int .i64) _ 3 ?hg (N := 32) ?hd (xs := ([(-1)] : List Int)) (inner := [.int .i64 (-1)]) (ok := fun _ => True) (okp := fun _ => True) ?hr ?hp (fun _ hk => hk) trivial (Below.refl _ _) (Nat.le_refl _) (by simp) ?_; (case hd => rfl); (case hg => rfl); (case hr => first | (go_simp; done) | (go_simp; rfl)); (case hp => exact (Reps.one (show Kd.M (Kd.int .i64) _ _ _ (-1) [.int .i64 (-1)] from rfl) (Reps.none _ _))); intro v814 w16 ho17 hb hg_ hnew_; clear hg_ hnew_; (first | rw [← Ny813.out] at ho17 | (simp only [Int.reduceToNat] at ho17; rw [← Ny813.out] at ho17)); have n0_ := Aside0.mk (Kd.R_below (by (with_reducible repeat (first | apply Kd.R_alloc | apply Kd.R_drewN | apply Kd.R_drew)); exact HO808.out) hb); have n1_ := Aside0.mk (Kd.R_below (by (with_reducible repeat (first | apply Kd.R_alloc | apply Kd.R_drewN | apply Kd.R_drew)); exact HO812.out) hb); have n2_ := Aside0.mk (Kd.R_lower ho17 (keep_size (w := w) (g := g) (row := none) (by repeat (first | (with_reducible first | exact HK.out | apply KeepBut.set_ | apply keep_drewN | apply keep_drew | apply keep_alloc) | exact HK.out)))); have n3_ := Aside0.mk (IsS28.below (by repeat (first | (with_reducible first | exact HI0.out | apply IsS28.alloc | apply IsS28.drewN | apply IsS28.drew | apply IsS28.set_0 | apply IsS28.set_1) | exact HI0.out)) hb); have n4_ := Aside0.mk (KeepBut.trans (by repeat (first | (with_reducible first | exact HK.out | apply KeepBut.set_ | apply keep_drewN | apply keep_drew | apply keep_alloc) | exact HK.out)) (KeepBut.of_below hb g none) (.inl rfl)); have n5_ := Aside0.mk (below_step (by repeat (first | (with_reducible first | exact HB.out | apply below_alloc | apply pw_below_drewN | apply below_drew1 | refine below_set ?_ (IsS28.ge HI0.out)) | exact HB.out)) hb); clear HO808; clear HO812; clear HI0; clear HK; clear HB; have HO808 := n0_; have HO812 := n1_; have HO815 := n2_; have HI0 := n3_; have HK := n4_; have HB := n5_; clear n0_ n1_ n2_ n3_ n4_ n5_; clear hb ho17) | ((with_reducible refine gate_dst (N := 33) rfl ?_); refine Kd.R_lit (Kd.int .i64) _ 2 ?hg (N := 33) ?hd (xs := ([0] : List Int)) (inner := [.int .i64 0]) (ok := fun _ => True) (okp := fun _ => True) ?hr ?hp (fun _ hk => hk) trivial (Below.refl _ _) (Nat.le_refl _) (by simp) ?_; (case hd => rfl); (case hg => rfl); (case hr => first | (go_simp; done) | (go_simp; rfl)); (case hp => exact (Reps.one (show Kd.M (Kd.int .i64) _ _ _ 0 [.int .i64 0] from rfl) (Reps.none _ _))); intro v817 w18 ho19 hb hg_ hnew_; clear hg_ hnew_; (first | rw [← Ny816.out] at ho19 | (simp only [Int.reduceToNat] at ho19; rw [← Ny816.out] at ho19)); have n0_ := Aside0.mk (Kd.R_below (by (with_reducible repeat (first | apply Kd.R_alloc | apply Kd.R_drewN | apply Kd.R_drew)); exact HO808.out) hb); have n1_ := Aside0.mk (Kd.R_elder' (by (with_reducible repeat (first | apply Kd.R_alloc | apply Kd.R_drewN | apply Kd.R_drew)); exact HO812.out) (Kd.R_base ho19) hb); have n2_ := Aside0.mk (Kd.R_below (by (with_reducible repeat (first | apply Kd.R_alloc | apply Kd.R_drewN | apply Kd.R_drew)); exact HO815.out) hb); have n3_ := Aside0.mk (Kd.R_lower (Kd.R_new' ho19 (Kd.R_lt (by (with_reducible repeat (first | apply Kd.R_alloc | apply Kd.R_drewN | apply Kd.R_drew)); exact HO812.out))) (keep_size (w := w) (g := g) (row := none) (by repeat (first | (with_reducible first | exact HK.out | apply KeepBut.set_ | apply keep_drewN | apply keep_drew | apply keep_alloc) | exact HK.out)))); have n4_ := Aside0.mk (IsS28.below (by repeat (first | (with_reducible first | exact HI0.out | apply IsS28.alloc | apply IsS28.drewN | apply IsS28.drew | apply IsS28.set_0 | apply IsS28.set_1) | exact HI0.out)) hb); have n5_ := Aside0.mk (KeepBut.trans (by repeat (first | (with_reducible first | exact HK.out | apply KeepBut.set_ | apply keep_drewN | apply keep_drew | apply keep_alloc) | exact HK.out)) (KeepBut.of_below hb g none) (.inl rfl)); have n6_ := Aside0.mk (below_step (by repeat (first | (with_reducible first | exact HB.out | apply below_alloc | apply pw_below_drewN | apply below_drew1 | refine below_set ?_ (IsS28.ge HI0.out)) | exact HB.out)) hb); clear HO808; clear HO812; clear HO815; clear HI0; clear HK; clear HB; have HO808 := n0_; have HO812 := n1_; have HO815 := n2_; have HO818 := n3_; have HI0 := n4_; have HK := n5_; have HB := n6_; clear n0_ n1_ n2_ n3_ n4_ n5_ n6_; clear hb ho19) | go_quiet (fail))
     go_loopg [5, 6, 7, 8] k (fun kq v5 v6 v7 v8 w' => ∃ (x4_1 : List Bool) (x5_1 : List Int) (x6_1 : List Int) (x7_1 : List Int) (x8_1 : Int), v8 = .int .i64 x8_1 ∧ Aside0 (spec_l01First.l0 kq x4_1 x5_1 x6_1 x7_1 x8_1 s0_0 s0_1 s0_2 s0_3 = some (r1, r2, r3, r4)) ∧ Aside0 (kq ≤ k) ∧ Aside0 (Kd.R Kd.bool 4 w' w.heap.size (fun _ => True) (.slice (some ⟨go6, 0, none⟩) y806.length co6) x4_1) ∧ Aside0 (Kd.R (Kd.int .i64) 2 w' w.heap.size (fun k_ => some k_ ≠ (v7 : Value).ownBlock) v5 x5_1) ∧ Aside0 (Kd.R (Kd.int .i64) 3 w' w.heap.size (fun _ => True) v6 x6_1) ∧ Aside0 (Kd.R (Kd.int .i64) 2 w' w.heap.size (fun k_ => some k_ ≠ (v5 : Value).ownBlock) v7 x7_1) ∧ Aside0 (IsS28 w0 w' g s0_0 s0_1 s0_2 s0_3) ∧ Aside0 (KeepBut w w' g none) ∧ Aside0 (Below w0.heap.size w0 w'))
     case atStart => exact ⟨(y809), (y810), (y813), (y816), (0), (by first | rfl | (simp; done) | (simp [*]; done)), H', ⟨Nat.le_refl _⟩, ⟨by (with_reducible repeat (first | apply Kd.R_alloc | apply Kd.R_drewN | apply Kd.R_drew)); exact HO808.out⟩, ⟨by (with_reducible repeat (first | apply Kd.R_alloc | apply Kd.R_drewN | apply Kd.R_drew)); exact Kd.R_mono HO812.out (fun _ hk => hk.2)⟩, ⟨by (with_reducible repeat (first | apply Kd.R_alloc | apply Kd.R_drewN | apply Kd.R_drew)); exact HO815.out⟩, ⟨by (with_reducible repeat (first | apply Kd.R_alloc | apply Kd.R_drewN | apply Kd.R_drew)); exact Kd.R_mono HO818.out (fun _ hk => hk.2)⟩, ⟨by repeat (first | (with_reducible first | exact HI0.out | apply IsS28.alloc | apply IsS28.drewN | apply IsS28.drew | apply IsS28.set_0 | apply IsS28.set_1) | exact HI0.out)⟩, ⟨by repeat (first | (with_reducible first | exact HK.out | apply KeepBut.set_ | apply keep_drewN | apply keep_drew | apply keep_alloc) | exact HK.out)⟩, ⟨by repeat (first | (with_reducible first | exact HB.out | apply below_alloc | apply pw_below_drewN | apply below_drew1 | refine below_set ?_ (IsS28.ge HI0.out)) | exact HB.out)⟩⟩
     case round =>
      clear H'
      try clear c2
      try clear c2b0
      try clear c2b1
      try clear p2
      try clear c3
      try clear c3b0
      try clear c3b1
      try clear c4
      try clear c4b0
      try clear c5
      try clear c5b0
      try clear p6
      try clear q6
      try clear hx6
      try clear hf6
      try clear c8
      try clear hcz10_0
      try clear hcz10_1
      try clear hcz10_2
      try clear hcz10_3
      try clear hcz13_0
      try clear hcz13_1
      try clear hcz13_2
      try clear hcz13_3
      try clear hcz7_0
      try clear hcz7_1
      try clear hcz7_2
      try clear hcz7_3
      try clear hfz10_0
      try clear hfz10_1
      try clear hfz13_0
      try clear hfz13_1
      try clear hfz7_0
      try clear hfz7_1
      try clear hx6_0
      try clear p6
      try clear q6
      obtain ⟨x4_1, x5_1, x6_1, x7_1, x8_1, rfl, HA, HK1, HO_4, HO_5, HO_6, HO_7, HI0, HK, HB⟩ := hrel
      have hl4_1 := (Kd.R_reads' HO_4.out).1
      rw [hl4_1] at HO_4
      (try simp only [hl4_1])
      (try simp only [hl4_1] at HO_5)
      (try simp only [hl4_1] at HO_6)
      (try simp only [hl4_1] at HO_7)
      cases gk with
      | zero => exact absurd HA.out (by simp [spec_l01First.l0])
      | succ k1 =>
       have H := HA.out
       clear HA
       simp only [spec_l01First.l0] at H
       by_cases c20 : x8_1 < (x5_1.length : Int)
       ·rw [if_pos c20] at H
        have c20b0 : decide (x8_1 < (x5_1.length : Int)) = true := decide_eq_true c20
        clear c20
        by_cases c21 : 0 ≤ x8_1
        ·rw [if_pos c21] at H
         have c21b0 : decide (0 ≤ x8_1) = true := decide_eq_true c21
         clear c21
         by_cases c22 : 0 ≤ (rd x5_1 x8_1)
         ·rw [if_pos c22] at H
          have c22b0 : decide (0 ≤ (rd x5_1 x8_1)) = true := decide_eq_true c22
          clear c22
          by_cases c23 : (rd x5_1 x8_1) < (s0_2.length : Int)
          ·rw [if_pos c23] at H
           have c23b0 : decide ((rd x5_1 x8_1) < (s0_2.length : Int)) = true := decide_eq_true c23
           clear c23
           obtain ⟨bq24, hbq24⟩ : ∃ b_ : Bool, b_ = (rdOf false s0_2 (rd x5_1 x8_1)) := ⟨_, rfl⟩
           replace H : (if bq24 = true then (spec_l01First.l1 k1 x6_1 x7_1 (([] : List Int)) x8_1 s0_0 s0_1 s0_2 s0_3) else (spec_l01First.l3 k1 x4_1 x5_1 x6_1 x7_1 x8_1 0 s0_0 s0_1 s0_2 s0_3)) = some (r1, r2, r3, r4) := by rw [← hbq24] at H; exact H
           have Nbq24 := Aside0.mk hbq24
           clear hbq24
           by_cases c25 : bq24 = true
           ·subst c25
            have H1 : (spec_l01First.l1 k1 x6_1 x7_1 (([] : List Int)) x8_1 s0_0 s0_1 s0_2 s0_3) = some (r1, r2, r3, r4) := by rw [if_pos rfl] at H; exact H
            clear H
            have H := H1
            clear H1
            obtain ⟨y824, hy824⟩ : ∃ y_ : List Int, y_ = (([] : List Int)) := ⟨_, rfl⟩
            replace H : (spec_l01First.l1 k1 x6_1 x7_1 y824 x8_1 s0_0 s0_1 s0_2 s0_3) = some (r1, r2, r3, r4) := by first | (rw [hy824]; with_reducible exact H) | (have H2_ := (Option.bind_some _ _).symm.trans H; rw [hy824]; with_reducible exact H2_) | (have H2_ := (Option.bind_some _ _).symm.trans H; with_reducible exact H2_) | with_reducible exact H | (rw [hy824]; exact H) | exact H
            have Ny824 := Aside0.mk hy824
            clear hy824
            have H' := Aside0.mk H
            clear H
            obtain ⟨Ao26, co26, eo26⟩ := Kd.R_slice HO_5.out
            subst eo26
            obtain ⟨ASz27_2, cSz27_2, ASz27_3, cSz27_3, HGz27, hgz27, HSz27_2, HSz27_3⟩ := HI0.out
            have hcz27_0 := cellS28_0 HGz27
            have hcz27_1 := cellS28_1 HGz27
            have hcz27_2 := cellS28_2 HGz27
            have hcz27_3 := cellS28_3 HGz27
            have hfz27_0 := blk_frozen HGz27 0
            have hfz27_1 := blk_frozen HGz27 1
            clear HGz27 hgz27
            have p822 : 0 ≤ (x8_1 : Int) := of_decide_eq_true (by first | (with_reducible assumption) | assumption)
            have q822 : x8_1 < (x5_1.length : Int) := of_decide_eq_true (by first | (with_reducible assumption) | assumption)
            obtain ⟨ad822, e822, hx822_0⟩ := Kd.at_int (Kd.R_reads' HO_5.out).2.2 x8_1 p822 q822
            cases e822
            replace p822 := eq_true p822
            replace q822 := eq_true q822
            have p823 : 0 ≤ ((rd x5_1 x8_1) : Int) := of_decide_eq_true (by first | (with_reducible assumption) | assumption)
            have q823 : (rd x5_1 x8_1) < (s0_2.length : Int) := of_decide_eq_true (by first | (with_reducible assumption) | assumption)
            obtain ⟨ad823, e823, hx823_0⟩ := Kd.at_bool HSz27_2 (rd x5_1 x8_1) p823 q823
            (try rw [← Nbq24.out] at hx823_0)
            cases e823
            replace hx823_0 := pw_cell_below HB.out hx823_0
            replace p823 := eq_true p823
            replace q823 := eq_true q823
            go_wp2_with (first | ((with_reducible refine gate_dst (N := 50) rfl ?_); refine Kd.R_lit (Kd.int .i64) _ 2 ?hg (N := 50) ?hd (xs := ([] : List Int)) (inner := []) (ok := fun _ => True) (okp := fun _ => True) ?hr ?hp (fun _ hk => hk) trivial (Below.refl _ _) (Nat.le_refl _) (by simp) ?_; (case hd => rfl); (case hg => rfl); (case hr => first | (go_simp; done) | (go_simp; rfl)); (case hp => exact (Reps.none _ _)); intro v825 w28 ho29 hb hg_ hnew_; clear hg_ hnew_; (first | rw [← Ny824.out] at ho29 | (simp only [Int.reduceToNat] at ho29; rw [← Ny824.out] at ho29)); have n0_ := Aside0.mk (Kd.R_below (by (with_reducible repeat (first | apply Kd.R_alloc | apply Kd.R_drewN | apply Kd.R_drew)); exact HO_4.out) hb); have n1_ := Aside0.mk (Kd.R_elder' (by (with_reducible repeat (first | apply Kd.R_alloc | apply Kd.R_drewN | apply Kd.R_drew)); exact HO_5.out) (Kd.R_base ho29) hb); have n2_ := Aside0.mk (Kd.R_below (by (with_reducible repeat (first | apply Kd.R_alloc | apply Kd.R_drewN | apply Kd.R_drew)); exact HO_6.out) hb); have n3_ := Aside0.mk (Kd.R_elder' (by (with_reducible repeat (first | apply Kd.R_alloc | apply Kd.R_drewN | apply Kd.R_drew)); exact HO_7.out) (Kd.R_base ho29) hb); have n4_ := Aside0.mk (Kd.R_lower (Kd.R_new' (Kd.R_new' ho29 (Kd.R_lt (by (with_reducible repeat (first | apply Kd.R_alloc | apply Kd.R_drewN | apply Kd.R_drew)); exact HO_5.out))) (Kd.R_lt (by (with_reducible repeat (first | apply Kd.R_alloc | apply Kd.R_drewN | apply Kd.R_drew)); exact HO_7.out))) (keep_size (w := w) (g := g) (row := none) (by repeat (first | (with_reducible first | exact HK.out | apply KeepBut.set_ | apply keep_drewN | apply keep_drew | apply keep_alloc) | exact HK.out)))); have n5_ := Aside0.mk (IsS28.below (by repeat (first | (with_reducible first | exact HI0.out | apply IsS28.alloc | apply IsS28.drewN | apply IsS28.drew | apply IsS28.set_0 | apply IsS28.set_1) | exact HI0.out)) hb); have n6_ := Aside0.mk (KeepBut.trans (by repeat (first | (with_reducible first | exact HK.out | apply KeepBut.set_ | apply keep_drewN | apply keep_drew | apply keep_alloc) | exact HK.out)) (KeepBut.of_below hb g none) (.inl rfl)); have n7_ := Aside0.mk (below_step (by repeat (first | (with_reducible first | exact HB.out | apply below_alloc | apply pw_below_drewN | apply below_drew1 | refine below_set ?_ (IsS28.ge HI0.out)) | exact HB.out)) hb); clear HO_4; clear HO_5; clear HO_6; clear HO_7; clear HI0; clear HK; clear HB; have HO_4 := n0_; have HO_5 := n1_; have HO_6 := n2_; have HO_7 := n3_; have HO826 := n4_; have HI0 := n5_; have HK := n6_; have HB := n7_; clear n0_ n1_ n2_ n3_ n4_ n5_ n6_ n7_; clear hb ho29) | go_quiet (fail))
            go_loopg [9, 10] k1 (fun kq v9 v10 w' => ∃ (x9_2 : List Int) (x10_2 : Int), v10 = .int .i64 x10_2 ∧ Aside0 (spec_l01First.l1 kq x6_1 x7_1 x9_2 x10_2 s0_0 s0_1 s0_2 s0_3 = some (r1, r2, r3, r4)) ∧ Aside0 (kq ≤ k1) ∧ Aside0 (Kd.R (Kd.int .i64) 3 w' w.heap.size (fun _ => True) u6 x6_1) ∧ Aside0 (Kd.R (Kd.int .i64) 2 w' w.heap.size (fun k_ => some k_ ≠ (v9 : Value).ownBlock) u7 x7_1) ∧ Aside0 (Kd.R (Kd.int .i64) 2 w' w.heap.size (fun k_ => some k_ ≠ (u7 : Value).ownBlock) v9 x9_2) ∧ Aside0 (IsS28 w0 w' g s0_0 s0_1 s0_2 s0_3) ∧ Aside0 (KeepBut w w' g none) ∧ Aside0 (Below w0.heap.size w0 w'))
            case atStart => exact ⟨(y824), (x8_1), (by first | rfl | (simp; done) | (simp [*]; done)), H', ⟨Nat.le_refl _⟩, ⟨by (try simp only [hl4_1]); (with_reducible repeat (first | apply Kd.R_alloc | apply Kd.R_drewN | apply Kd.R_drew)); exact HO_6.out⟩, ⟨by (try simp only [hl4_1]); (with_reducible repeat (first | apply Kd.R_alloc | apply Kd.R_drewN | apply Kd.R_drew)); exact Kd.R_mono HO_7.out (fun _ hk => hk.2)⟩, ⟨by (try simp only [hl4_1]); (with_reducible repeat (first | apply Kd.R_alloc | apply Kd.R_drewN | apply Kd.R_drew)); exact Kd.R_mono HO826.out (fun _ hk => hk.2)⟩, ⟨by repeat (first | (with_reducible first | exact HI0.out | apply IsS28.alloc | apply IsS28.drewN | apply IsS28.drew | apply IsS28.set_0 | apply IsS28.set_1) | exact HI0.out)⟩, ⟨by repeat (first | (with_reducible first | exact HK.out | apply KeepBut.set_ | apply keep_drewN | apply keep_drew | apply keep_alloc) | exact HK.out)⟩, ⟨by repeat (first | (with_reducible first | exact HB.out | apply below_alloc | apply pw_below_drewN | apply below_drew1 | refine below_set ?_ (IsS28.ge HI0.out)) | exact HB.out)⟩⟩
            case round =>
             clear H'
             try clear c2
             try clear c2b0
             try clear c2b1
             try clear p2
             try clear q2
             try clear c3
             try clear c3b0
             try clear c3b1
             try clear c4
             try clear c4b0
             try clear c5
             try clear c5b0
             try clear p6
             try clear q6
             try clear hx6
             try clear hf6
             try clear c8
             try clear p8
             try clear q8
             try clear hx8
             try clear c20
             try clear c20b0
             try clear c21
             try clear c21b0
             try clear c22
             try clear c22b0
             try clear c23
             try clear c23b0
             try clear q24
             try clear c25
             try clear hcz10_0
             try clear hcz10_1
             try clear hcz10_2
             try clear hcz10_3
             try clear hcz13_0
             try clear hcz13_1
             try clear hcz13_2
             try clear hcz13_3
             try clear hcz27_0
             try clear hcz27_1
             try clear hcz27_2
             try clear hcz27_3
             try clear hcz7_0
             try clear hcz7_1
             try clear hcz7_2
             try clear hcz7_3
             try clear hfz10_0
             try clear hfz10_1
             try clear hfz13_0
             try clear hfz13_1
             try clear hfz27_0
             try clear hfz27_1
             try clear hfz7_0
             try clear hfz7_1
             try clear hx6_0
             try clear hx822_0
             try clear hx823_0
             try clear p2
             try clear p6
             try clear p822
             try clear p823
             try clear q6
             try clear q822
             try clear q823
             obtain ⟨x9_2, x10_2, rfl, HA, HK2, HO_6, HO_7, HO_9, HI0, HK, HB⟩ := hrel
             cases gk with
             | zero => exact absurd HA.out (by simp [spec_l01First.l1])
             | succ k2 =>
              have H := HA.out
              clear HA
              simp only [spec_l01First.l1] at H
              by_cases c30 : 0 ≤ x10_2
              ·rw [if_pos c30] at H
               have c30b0 : decide (0 ≤ x10_2) = true := decide_eq_true c30
               clear c30
               by_cases c31 : x10_2 < (x6_1.length : Int)
               ·rw [if_pos c31] at H
                have c31b0 : decide (x10_2 < (x6_1.length : Int)) = true := decide_eq_true c31
                clear c31
                by_cases c32 : (rd x6_1 x10_2) ≥ 0
                ·rw [if_pos c32] at H
                 have c32b0 : decide (0 ≤ (rd x6_1 x10_2)) = true := decide_eq_true c32
                 clear c32
                 by_cases c33 : x10_2 < (x7_1.length : Int)
                 ·rw [if_pos c33] at H
                  have c33b0 : decide (x10_2 < (x7_1.length : Int)) = true := decide_eq_true c33
                  clear c33
                  by_cases c34 : x9_2.length < 17592186044416
                  ·rw [if_pos c34] at H
                   have LMc34 := Aside0.mk c34
                   clear c34
                   obtain ⟨y829, hy829⟩ : ∃ y_ : List Int, y_ = (x9_2 ++ [rd x7_1 x10_2]) := ⟨_, rfl⟩
                   replace H : (spec_l01First.l1 k2 x6_1 x7_1 y829 (rd x6_1 x10_2) s0_0 s0_1 s0_2 s0_3) = some (r1, r2, r3, r4) := by first | (rw [hy829]; with_reducible exact H) | (have H2_ := (Option.bind_some _ _).symm.trans H; rw [hy829]; with_reducible exact H2_) | (have H2_ := (Option.bind_some _ _).symm.trans H; with_reducible exact H2_) | with_reducible exact H | (rw [hy829]; exact H) | exact H
                   have Ny829 := Aside0.mk hy829
                   clear hy829
                   have H' := Aside0.mk H
                   clear H
                   obtain ⟨Ao35, co35, eo35⟩ := Kd.R_slice HO_6.out
                   subst eo35
                   have p827 : 0 ≤ (x10_2 : Int) := of_decide_eq_true (by first | (with_reducible assumption) | assumption)
                   have q827 : x10_2 < (x6_1.length : Int) := of_decide_eq_true (by first | (with_reducible assumption) | assumption)
                   obtain ⟨ad827, e827, hx827_0⟩ := Kd.at_int (Kd.R_reads' HO_6.out).2.2 x10_2 p827 q827
                   cases e827
                   replace p827 := eq_true p827
                   replace q827 := eq_true q827
                   obtain ⟨Ao36, co36, eo36⟩ := Kd.R_slice HO_7.out
                   subst eo36
                   have p828 : 0 ≤ (x10_2 : Int) := of_decide_eq_true (by first | (with_reducible assumption) | assumption)
                   have q828 : x10_2 < (x7_1.length : Int) := of_decide_eq_true (by first | (with_reducible assumption) | assumption)
                   obtain ⟨ad828, e828, hx828_0⟩ := Kd.at_int (Kd.R_reads' HO_7.out).2.2 x10_2 p828 q828
                   cases e828
                   replace p828 := eq_true p828
                   replace q828 := eq_true q828
                   go_wp2_with (first | ((with_reducible refine gate_builtin (b := .append) (xs := #[.tmp 61, .tmp 66]) rfl ?_); at_builtin; refine Kd.R_append (Kd.int .i64) w.heap.size rfl (.tmp 61) (.tmp 66) 55 2 (.int .i64 0) 8 rfl Tryd.underlying55 info2 rfl (by decide) (by omega) u9 x9_2 (rd x7_1 x10_2) [.int .i64 (rd x7_1 x10_2)] (fun k_ => some k_ ≠ (.slice (some ad828) x7_1.length co36 : Value).ownBlock) (fun _ => False) rfl rfl ?aP (fun _ hk => hk.elim) ?aF ?aO (Below.refl _ _) ?aS ?aL ?_; (case aP => exact rfl); (case aF => exact (fun k_ hk => Kd.fresh' (Kd.R_lt (by (with_reducible repeat (first | apply Kd.R_alloc | apply Kd.R_drewN | apply Kd.R_drew)); exact HO_7.out)) k_ hk)); (case aO => exact (by (with_reducible repeat (first | apply Kd.R_alloc | apply Kd.R_drewN | apply Kd.R_drew)); exact HO_9.out)); (case aS => exact (keep_size (w := w) (g := g) (row := none) (by repeat (first | (with_reducible first | exact HK.out | apply KeepBut.set_ | apply keep_drewN | apply keep_drew | apply keep_alloc) | exact HK.out)))); (case aL => have := LMc34.out; omega); intro v830 w37 ho hb hg hat; rw [← Ny829.out] at ho; have n0_ := Aside0.mk (Kd.R_over' (by (with_reducible repeat (first | apply Kd.R_alloc | apply Kd.R_drewN | apply Kd.R_drew)); exact HO_6.out) (Kd.R_typed (by (with_reducible repeat (first | apply Kd.R_alloc | apply Kd.R_drewN | apply Kd.R_drew)); exact HO_9.out)) (by decide) hg); have n1_ := Aside0.mk (Kd.R_after (ok := (fun _ => True)) (by (with_reducible repeat (first | apply Kd.R_alloc | apply Kd.R_drewN | apply Kd.R_drew)); exact Kd.R_mono HO_7.out (fun _ hk => ⟨trivial, hk⟩)) hg hat); have n2_ := Aside0.mk (IsS28.grown (by repeat (first | (with_reducible first | exact HI0.out | apply IsS28.alloc | apply IsS28.drewN | apply IsS28.drew | apply IsS28.set_0 | apply IsS28.set_1) | exact HI0.out)) hg (IsS28.own_ne HI0.out HO_9.out (by decide))); have n3_ := Aside0.mk (below_weaken (by repeat (first | (with_reducible first | exact HB.out | apply below_alloc | apply pw_below_drewN | apply below_drew1 | refine below_set ?_ (IsS28.ge HI0.out)) | exact HB.out)) HL.out hb); have n4_ := Aside0.mk (KeepBut.trans (by repeat (first | (with_reducible first | exact HK.out | apply KeepBut.set_ | apply keep_drewN | apply keep_drew | apply keep_alloc) | exact HK.out)) (KeepBut.of_grown hg g) (Kd.R_base2 HO_9.out)); have n5_ := Aside0.mk (ho); clear HO_6; clear HO_7; clear HI0; clear HB; clear HK; clear HO_9; have HO_6 := n0_; have HO_7 := n1_; have HI0 := n2_; have HB := n3_; have HK := n4_; have HO831 := n5_; clear n0_ n1_ n2_ n3_ n4_ n5_; clear ho hb hg hat; have p832 : 0 ≤ (x10_2 : Int) := of_decide_eq_true (by first | (with_reducible assumption) | assumption); have q832 : x10_2 < (x6_1.length : Int) := of_decide_eq_true (by first | (with_reducible assumption) | assumption); obtain ⟨ad832, e832, hx832_0⟩ := Kd.at_int (Kd.R_reads' HO_6.out).2.2 x10_2 p832 q832; obtain rfl : ad827 = ad832 := (by injection e832); replace p832 := eq_true p832; replace q832 := eq_true q832) | go_quiet (fail))
                   go_roundg k2
                   case measure => have := HK1.out; have := HK2.out; omega
                   case rel => exact ⟨(y829), (rd x6_1 x10_2), (by first | rfl | (simp; done) | (simp [*]; done)), H', ⟨by have := HK1.out; have := HK2.out; omega⟩, ⟨by (try simp only [hl4_1]); (with_reducible repeat (first | apply Kd.R_alloc | apply Kd.R_drewN | apply Kd.R_drew)); exact HO_6.out⟩, ⟨by (try simp only [hl4_1]); (with_reducible repeat (first | apply Kd.R_alloc | apply Kd.R_drewN | apply Kd.R_drew)); exact Kd.R_mono HO_7.out (fun _ hk => hk.2)⟩, ⟨by (try simp only [hl4_1]); (with_reducible repeat (first | apply Kd.R_alloc | apply Kd.R_drewN | apply Kd.R_drew)); exact HO831.out⟩, ⟨by repeat (first | (with_reducible first | exact HI0.out | apply IsS28.alloc | apply IsS28.drewN | apply IsS28.drew | apply IsS28.set_0 | apply IsS28.set_1) | exact HI0.out)⟩, ⟨by repeat (first | (with_reducible first | exact HK.out | apply KeepBut.set_ | apply keep_drewN | apply keep_drew | apply keep_alloc) | exact HK.out)⟩, ⟨by repeat (first | (with_reducible first | exact HB.out | apply below_alloc | apply pw_below_drewN | apply below_drew1 | refine below_set ?_ (IsS28.ge HI0.out)) | exact HB.out)⟩⟩
                  ·rw [if_neg c34] at H
                   exact absurd H (by simp)
                 ·rw [if_neg c33] at H
                  exact absurd H (by simp)
                ·rw [if_neg c32] at H
                 have c32b0 : decide (0 ≤ (rd x6_1 x10_2)) = false := decide_eq_false c32
                 clear c32
                 obtain ⟨y833, hy833⟩ : ∃ y_ : List Int, y_ = (([] : List Int)) := ⟨_, rfl⟩
                 replace H : (spec_l01First.l2 k2 x9_2 y833 (wrap64 ((x9_2.length : Int) - 1)) s0_0 s0_1 s0_2 s0_3) = some (r1, r2, r3, r4) := by first | (rw [hy833]; with_reducible exact H) | (have H2_ := (Option.bind_some _ _).symm.trans H; rw [hy833]; with_reducible exact H2_) | (have H2_ := (Option.bind_some _ _).symm.trans H; with_reducible exact H2_) | with_reducible exact H | (rw [hy833]; exact H) | exact H
                 have Ny833 := Aside0.mk hy833
                 clear hy833
                 have H' := Aside0.mk H
                 clear H
                 obtain ⟨Ao38, co38, eo38⟩ := Kd.R_slice HO_6.out
                 subst eo38
                 have p827 : 0 ≤ (x10_2 : Int) := of_decide_eq_true (by first | (with_reducible assumption) | assumption)
                 have q827 : x10_2 < (x6_1.length : Int) := of_decide_eq_true (by first | (with_reducible assumption) | assumption)
                 obtain ⟨ad827, e827, hx827_0⟩ := Kd.at_int (Kd.R_reads' HO_6.out).2.2 x10_2 p827 q827
                 cases e827
                 replace p827 := eq_true p827
                 replace q827 := eq_true q827
                 go_wp2_with (first | ((with_reducible refine gate_dst (N := 68) rfl ?_); refine Kd.R_lit (Kd.int .i64) _ 2 ?hg (N := 68) ?hd (xs := ([] : List Int)) (inner := []) (ok := fun _ => True) (okp := fun _ => True) ?hr ?hp (fun _ hk => hk) trivial (Below.refl _ _) (Nat.le_refl _) (by simp) ?_; (case hd => rfl); (case hg => rfl); (case hr => first | (go_simp; done) | (go_simp; rfl)); (case hp => exact (Reps.none _ _)); intro v834 w39 ho40 hb hg_ hnew_; clear hg_ hnew_; (first | rw [← Ny833.out] at ho40 | (simp only [Int.reduceToNat] at ho40; rw [← Ny833.out] at ho40)); have n0_ := Aside0.mk (Kd.R_below (by (with_reducible repeat (first | apply Kd.R_alloc | apply Kd.R_drewN | apply Kd.R_drew)); exact HO_6.out) hb); have n1_ := Aside0.mk (Kd.R_elder' (by (with_reducible repeat (first | apply Kd.R_alloc | apply Kd.R_drewN | apply Kd.R_drew)); exact HO_7.out) (Kd.R_base ho40) hb); have n2_ := Aside0.mk (Kd.R_elder' (by (with_reducible repeat (first | apply Kd.R_alloc | apply Kd.R_drewN | apply Kd.R_drew)); exact HO_9.out) (Kd.R_base ho40) hb); have n3_ := Aside0.mk (Kd.R_lower (Kd.R_new' (Kd.R_new' ho40 (Kd.R_lt (by (with_reducible repeat (first | apply Kd.R_alloc | apply Kd.R_drewN | apply Kd.R_drew)); exact HO_7.out))) (Kd.R_lt (by (with_reducible repeat (first | apply Kd.R_alloc | apply Kd.R_drewN | apply Kd.R_drew)); exact HO_9.out))) (keep_size (w := w) (g := g) (row := none) (by repeat (first | (with_reducible first | exact HK.out | apply KeepBut.set_ | apply keep_drewN | apply keep_drew | apply keep_alloc) | exact HK.out)))); have n4_ := Aside0.mk (IsS28.below (by repeat (first | (with_reducible first | exact HI0.out | apply IsS28.alloc | apply IsS28.drewN | apply IsS28.drew | apply IsS28.set_0 | apply IsS28.set_1) | exact HI0.out)) hb); have n5_ := Aside0.mk (KeepBut.trans (by repeat (first | (with_reducible first | exact HK.out | apply KeepBut.set_ | apply keep_drewN | apply keep_drew | apply keep_alloc) | exact HK.out)) (KeepBut.of_below hb g none) (.inl rfl)); have n6_ := Aside0.mk (below_step (by repeat (first | (with_reducible first | exact HB.out | apply below_alloc | apply pw_below_drewN | apply below_drew1 | refine below_set ?_ (IsS28.ge HI0.out)) | exact HB.out)) hb); clear HO_6; clear HO_7; clear HO_9; clear HI0; clear HK; clear HB; have HO_6 := n0_; have HO_7 := n1_; have HO_9 := n2_; have HO835 := n3_; have HI0 := n4_; have HK := n5_; have HB := n6_; clear n0_ n1_ n2_ n3_ n4_ n5_ n6_; clear hb ho40; obtain ⟨Ao41, co41, eo41⟩ := Kd.R_slice HO_9.out; subst eo41) | go_quiet (fail))
                 go_loopg [11, 12] k2 (fun kq v11 v12 w' => ∃ (x11_3 : List Int) (x12_3 : Int), v12 = .int .i64 x12_3 ∧ Aside0 (spec_l01First.l2 kq x9_2 x11_3 x12_3 s0_0 s0_1 s0_2 s0_3 = some (r1, r2, r3, r4)) ∧ Aside0 (kq ≤ k2) ∧ Aside0 (Kd.R (Kd.int .i64) 2 w' w.heap.size (fun k_ => some k_ ≠ (v11 : Value).ownBlock) (.slice Ao41 x9_2.length co41) x9_2) ∧ Aside0 (Kd.R (Kd.int .i64) 2 w' w.heap.size (fun k_ => some k_ ≠ ((.slice Ao41 x9_2.length co41) : Value).ownBlock) v11 x11_3) ∧ Aside0 (IsS28 w0 w' g s0_0 s0_1 s0_2 s0_3) ∧ Aside0 (KeepBut w w' g none) ∧ Aside0 (Below w0.heap.size w0 w'))
                 case atStart => exact ⟨(y833), (wrap64 ((x9_2.length : Int) - 1)), (by first | rfl | (simp; done) | (simp [*]; done)), H', ⟨Nat.le_refl _⟩, ⟨by (try simp only [hl4_1]); (with_reducible repeat (first | apply Kd.R_alloc | apply Kd.R_drewN | apply Kd.R_drew)); exact Kd.R_mono HO_9.out (fun _ hk => hk.2)⟩, ⟨by (try simp only [hl4_1]); (with_reducible repeat (first | apply Kd.R_alloc | apply Kd.R_drewN | apply Kd.R_drew)); exact Kd.R_mono HO835.out (fun _ hk => hk.2)⟩, ⟨by repeat (first | (with_reducible first | exact HI0.out | apply IsS28.alloc | apply IsS28.drewN | apply IsS28.drew | apply IsS28.set_0 | apply IsS28.set_1) | exact HI0.out)⟩, ⟨by repeat (first | (with_reducible first | exact HK.out | apply KeepBut.set_ | apply keep_drewN | apply keep_drew | apply keep_alloc) | exact HK.out)⟩, ⟨by repeat (first | (with_reducible first | exact HB.out | apply below_alloc | apply pw_below_drewN | apply below_drew1 | refine below_set ?_ (IsS28.ge HI0.out)) | exact HB.out)⟩⟩
                 case round =>
                  clear H'
                  try clear c2
                  try clear c2b0
                  try clear c2b1
                  try clear p2
                  try clear q2
                  try clear c3
                  try clear c3b0
                  try clear c3b1
                  try clear c4
                  try clear c4b0
                  try clear c5
                  try clear c5b0
                  try clear p6
                  try clear q6
                  try clear hx6
                  try clear hf6
                  try clear c8
                  try clear p8
                  try clear q8
                  try clear hx8
                  try clear c20
                  try clear c20b0
                  try clear c21
                  try clear c21b0
                  try clear c22
                  try clear c22b0
                  try clear c23
                  try clear c23b0
                  try clear q24
                  try clear c25
                  try clear c30
                  try clear c30b0
                  try clear c31
                  try clear c31b0
                  try clear c32
                  try clear c32b0
                  try clear c33
                  try clear c33b0
                  try clear c34
                  try clear hcz10_0
                  try clear hcz10_1
                  try clear hcz10_2
                  try clear hcz10_3
                  try clear hcz13_0
                  try clear hcz13_1
                  try clear hcz13_2
                  try clear hcz13_3
                  try clear hcz27_0
                  try clear hcz27_1
                  try clear hcz27_2
                  try clear hcz27_3
                  try clear hcz7_0
                  try clear hcz7_1
                  try clear hcz7_2
                  try clear hcz7_3
                  try clear hfz10_0
                  try clear hfz10_1
                  try clear hfz13_0
                  try clear hfz13_1
                  try clear hfz27_0
                  try clear hfz27_1
                  try clear hfz7_0
                  try clear hfz7_1
                  try clear hx6_0
                  try clear hx822_0
                  try clear hx823_0
                  try clear hx827_0
                  try clear hx828_0
                  try clear hx832_0
                  try clear p2
                  try clear p6
                  try clear p8
                  try clear p822
                  try clear p823
                  try clear p827
                  try clear p828
                  try clear p832
                  try clear q2
                  try clear q24
                  try clear q6
                  try clear q8
                  try clear q822
                  try clear q823
                  try clear q827
                  try clear q828
                  try clear q832
                  obtain ⟨x11_3, x12_3, rfl, HA, HK3, HO_9, HO_11, HI0, HK, HB⟩ := hrel
                  cases gk with
                  | zero => exact absurd HA.out (by simp [spec_l01First.l2])
                  | succ k3 =>
                   have H := HA.out
                   clear HA
                   simp only [spec_l01First.l2] at H
                   by_cases c42 : x12_3 ≥ 0
                   ·rw [if_pos c42] at H
                    have c42b0 : decide (0 ≤ x12_3) = true := decide_eq_true c42
                    clear c42
                    by_cases c43 : 0 ≤ x12_3
                    ·rw [if_pos c43] at H
                     have c43b0 : decide (0 ≤ x12_3) = true := decide_eq_true c43
                     clear c43
                     by_cases c44 : x12_3 < (x9_2.length : Int)
                     ·rw [if_pos c44] at H
                      have c44b0 : decide (x12_3 < (x9_2.length : Int)) = true := decide_eq_true c44
                      clear c44
                      by_cases c45 : x11_3.length < 17592186044416
                      ·rw [if_pos c45] at H
                       have LMc45 := Aside0.mk c45
                       clear c45
                       obtain ⟨y837, hy837⟩ : ∃ y_ : List Int, y_ = (x11_3 ++ [rd x9_2 x12_3]) := ⟨_, rfl⟩
                       replace H : (spec_l01First.l2 k3 x9_2 y837 (wrap64 (x12_3 - 1)) s0_0 s0_1 s0_2 s0_3) = some (r1, r2, r3, r4) := by first | (rw [hy837]; with_reducible exact H) | (have H2_ := (Option.bind_some _ _).symm.trans H; rw [hy837]; with_reducible exact H2_) | (have H2_ := (Option.bind_some _ _).symm.trans H; with_reducible exact H2_) | with_reducible exact H | (rw [hy837]; exact H) | exact H
                       have Ny837 := Aside0.mk hy837
                       clear hy837
                       have H' := Aside0.mk H
                       clear H
                       have p836 : 0 ≤ (x12_3 : Int) := of_decide_eq_true (by first | (with_reducible assumption) | assumption)
                       have q836 : x12_3 < (x9_2.length : Int) := of_decide_eq_true (by first | (with_reducible assumption) | assumption)
                       obtain ⟨ad836, e836, hx836_0⟩ := Kd.at_int (Kd.R_reads' HO_9.out).2.2 x12_3 p836 q836
                       cases e836
                       replace p836 := eq_true p836
                       replace q836 := eq_true q836
                       go_wp2_with (first | ((with_reducible refine gate_builtin (b := .append) (xs := #[.tmp 76, .tmp 81]) rfl ?_); at_builtin; refine Kd.R_append (Kd.int .i64) w.heap.size rfl (.tmp 76) (.tmp 81) 55 2 (.int .i64 0) 8 rfl Tryd.underlying55 info2 rfl (by decide) (by omega) u11 x11_3 (rd x9_2 x12_3) [.int .i64 (rd x9_2 x12_3)] (fun k_ => some k_ ≠ (.slice (some ad836) x9_2.length co41 : Value).ownBlock) (fun _ => False) rfl rfl ?aP (fun _ hk => hk.elim) ?aF ?aO (Below.refl _ _) ?aS ?aL ?_; (case aP => exact rfl); (case aF => exact (fun k_ hk => Kd.fresh' (Kd.R_lt (by (with_reducible repeat (first | apply Kd.R_alloc | apply Kd.R_drewN | apply Kd.R_drew)); exact HO_9.out)) k_ hk)); (case aO => exact (by (with_reducible repeat (first | apply Kd.R_alloc | apply Kd.R_drewN | apply Kd.R_drew)); exact HO_11.out)); (case aS => exact (keep_size (w := w) (g := g) (row := none) (by repeat (first | (with_reducible first | exact HK.out | apply KeepBut.set_ | apply keep_drewN | apply keep_drew | apply keep_alloc) | exact HK.out)))); (case aL => have := LMc45.out; omega); intro v838 w46 ho hb hg hat; rw [← Ny837.out] at ho; have n0_ := Aside0.mk (Kd.R_after (ok := (fun _ => True)) (by (with_reducible repeat (first | apply Kd.R_alloc | apply Kd.R_drewN | apply Kd.R_drew)); exact Kd.R_mono HO_9.out (fun _ hk => ⟨trivial, hk⟩)) hg hat); have n1_ := Aside0.mk (IsS28.grown (by repeat (first | (with_reducible first | exact HI0.out | apply IsS28.alloc | apply IsS28.drewN | apply IsS28.drew | apply IsS28.set_0 | apply IsS28.set_1) | exact HI0.out)) hg (IsS28.own_ne HI0.out HO_11.out (by decide))); have n2_ := Aside0.mk (below_weaken (by repeat (first | (with_reducible first | exact HB.out | apply below_alloc | apply pw_below_drewN | apply below_drew1 | refine below_set ?_ (IsS28.ge HI0.out)) | exact HB.out)) HL.out hb); have n3_ := Aside0.mk (KeepBut.trans (by repeat (first | (with_reducible first | exact HK.out | apply KeepBut.set_ | apply keep_drewN | apply keep_drew | apply keep_alloc) | exact HK.out)) (KeepBut.of_grown hg g) (Kd.R_base2 HO_11.out)); have n4_ := Aside0.mk (ho); clear HO_9; clear HI0; clear HB; clear HK; clear HO_11; have HO_9 := n0_; have HI0 := n1_; have HB := n2_; have HK := n3_; have HO839 := n4_; clear n0_ n1_ n2_ n3_ n4_; clear ho hb hg hat) | go_quiet (fail))
                       go_roundg k3
                       case measure => have := HK1.out; have := HK2.out; have := HK3.out; omega
                       case rel => exact ⟨(y837), (wrap64 (x12_3 - 1)), (by first | rfl | (simp; done) | (simp [*]; done)), H', ⟨by have := HK1.out; have := HK2.out; have := HK3.out; omega⟩, ⟨by (try simp only [hl4_1]); (with_reducible repeat (first | apply Kd.R_alloc | apply Kd.R_drewN | apply Kd.R_drew)); exact Kd.R_mono HO_9.out (fun _ hk => hk.2)⟩, ⟨by (try simp only [hl4_1]); (with_reducible repeat (first | apply Kd.R_alloc | apply Kd.R_drewN | apply Kd.R_drew)); exact HO839.out⟩, ⟨by repeat (first | (with_reducible first | exact HI0.out | apply IsS28.alloc | apply IsS28.drewN | apply IsS28.drew | apply IsS28.set_0 | apply IsS28.set_1) | exact HI0.out)⟩, ⟨by repeat (first | (with_reducible first | exact HK.out | apply KeepBut.set_ | apply keep_drewN | apply keep_drew | apply keep_alloc) | exact HK.out)⟩, ⟨by repeat (first | (with_reducible first | exact HB.out | apply below_alloc | apply pw_below_drewN | apply below_drew1 | refine below_set ?_ (IsS28.ge HI0.out)) | exact HB.out)⟩⟩
                      ·rw [if_neg c45] at H
                       exact absurd H (by simp)
                     ·rw [if_neg c44] at H
                      exact absurd H (by simp)
                    ·rw [if_neg c43] at H
                     exact absurd H (by simp)
                   ·rw [if_neg c42] at H
                    have c42b0 : decide (0 ≤ x12_3) = false := decide_eq_false c42
                    clear c42
                    simp only [Option.some.injEq, Prod.mk.injEq] at H
                    obtain ⟨rfl, rfl, rfl, rfl⟩ := H
                    go_wp2
                    repeat (go_quiet (fail); try go_wp2)
                    go_ret2
                    exact ⟨_, by first | rfl | (simp [errW_none, errW_some] <;> rfl) | (simp [*, errW_none, errW_some] <;> rfl), by (with_reducible repeat (first | apply Kd.R_alloc | apply Kd.R_drewN | apply Kd.R_drew)); exact Kd.R_mono HO_11.out (fun _ hk => trivial), by repeat (first | (with_reducible first | exact HI0.out | apply IsS28.alloc | apply IsS28.drewN | apply IsS28.drew | apply IsS28.set_0 | apply IsS28.set_1) | exact HI0.out), by repeat (first | (with_reducible first | exact HB.out | apply below_alloc | apply pw_below_drewN | apply below_drew1 | refine below_set ?_ (IsS28.ge HI0.out)) | exact HB.out), by repeat (first | (with_reducible first | exact HK.out | apply KeepBut.set_ | apply keep_drewN | apply keep_drew | apply keep_alloc) | exact HK.out)⟩
               ·rw [if_neg c31] at H
                exact absurd H (by simp)
              ·rw [if_neg c30] at H
               exact absurd H (by simp)
           ·replace c25 := Bool.eq_false_iff.mpr c25
            subst c25
            have H1 : (spec_l01First.l3 k1 x4_1 x5_1 x6_1 x7_1 x8_1 0 s0_0 s0_1 s0_2 s0_3) = some (r1, r2, r3, r4) := by rw [if_neg (show ¬ (false = true) by decide)] at H; exact H
            clear H
            have H := H1
            clear H1
            have H' := Aside0.mk H
            clear H
            obtain ⟨Ao47, co47, eo47⟩ := Kd.R_slice HO_5.out
            subst eo47
            obtain ⟨ASz48_2, cSz48_2, ASz48_3, cSz48_3, HGz48, hgz48, HSz48_2, HSz48_3⟩ := HI0.out
            have hcz48_0 := cellS28_0 HGz48
            have hcz48_1 := cellS28_1 HGz48
            have hcz48_2 := cellS28_2 HGz48
            have hcz48_3 := cellS28_3 HGz48
            have hfz48_0 := blk_frozen HGz48 0
            have hfz48_1 := blk_frozen HGz48 1
            clear HGz48 hgz48
            have p822 : 0 ≤ (x8_1 : Int) := of_decide_eq_true (by first | (with_reducible assumption) | assumption)
            have q822 : x8_1 < (x5_1.length : Int) := of_decide_eq_true (by first | (with_reducible assumption) | assumption)
            obtain ⟨ad822, e822, hx822_0⟩ := Kd.at_int (Kd.R_reads' HO_5.out).2.2 x8_1 p822 q822
            cases e822
            replace p822 := eq_true p822
            replace q822 := eq_true q822
            have p823 : 0 ≤ ((rd x5_1 x8_1) : Int) := of_decide_eq_true (by first | (with_reducible assumption) | assumption)
            have q823 : (rd x5_1 x8_1) < (s0_2.length : Int) := of_decide_eq_true (by first | (with_reducible assumption) | assumption)
            obtain ⟨ad823, e823, hx823_0⟩ := Kd.at_bool HSz48_2 (rd x5_1 x8_1) p823 q823
            (try rw [← Nbq24.out] at hx823_0)
            cases e823
            replace hx823_0 := pw_cell_below HB.out hx823_0
            replace p823 := eq_true p823
            replace q823 := eq_true q823
            go_wp2
            repeat (go_quiet (fail); try go_wp2)
            go_loopg [5, 6, 7, 13] k1 (fun kq v5 v6 v7 v13 w' => ∃ (x4_2 : List Bool) (x5_2 : List Int) (x6_2 : List Int) (x7_2 : List Int) (x13_2 : Int), v13 = .int .i64 x13_2 ∧ Aside0 (spec_l01First.l3 kq x4_2 x5_2 x6_2 x7_2 x8_1 x13_2 s0_0 s0_1 s0_2 s0_3 = some (r1, r2, r3, r4)) ∧ Aside0 (kq ≤ k1) ∧ Aside0 (Kd.R Kd.bool 4 w' w.heap.size (fun _ => True) (.slice (some ⟨go6, 0, none⟩) x4_1.length co6) x4_2) ∧ Aside0 (Kd.R (Kd.int .i64) 2 w' w.heap.size (fun k_ => some k_ ≠ (v7 : Value).ownBlock) v5 x5_2) ∧ Aside0 (Kd.R (Kd.int .i64) 3 w' w.heap.size (fun _ => True) v6 x6_2) ∧ Aside0 (Kd.R (Kd.int .i64) 2 w' w.heap.size (fun k_ => some k_ ≠ (v5 : Value).ownBlock) v7 x7_2) ∧ Aside0 (IsS28 w0 w' g s0_0 s0_1 s0_2 s0_3) ∧ Aside0 (KeepBut w w' g none) ∧ Aside0 (Below w0.heap.size w0 w'))
            case atStart => exact ⟨(x4_1), (x5_1), (x6_1), (x7_1), (0), (by first | rfl | (simp; done) | (simp [*]; done)), H', ⟨Nat.le_refl _⟩, ⟨by (try simp only [hl4_1]); (with_reducible repeat (first | apply Kd.R_alloc | apply Kd.R_drewN | apply Kd.R_drew)); exact HO_4.out⟩, ⟨by (try simp only [hl4_1]); (with_reducible repeat (first | apply Kd.R_alloc | apply Kd.R_drewN | apply Kd.R_drew)); exact HO_5.out⟩, ⟨by (try simp only [hl4_1]); (with_reducible repeat (first | apply Kd.R_alloc | apply Kd.R_drewN | apply Kd.R_drew)); exact HO_6.out⟩, ⟨by (try simp only [hl4_1]); (with_reducible repeat (first | apply Kd.R_alloc | apply Kd.R_drewN | apply Kd.R_drew)); exact HO_7.out⟩, ⟨by repeat (first | (with_reducible first | exact HI0.out | apply IsS28.alloc | apply IsS28.drewN | apply IsS28.drew | apply IsS28.set_0 | apply IsS28.set_1) | exact HI0.out)⟩, ⟨by repeat (first | (with_reducible first | exact HK.out | apply KeepBut.set_ | apply keep_drewN | apply keep_drew | apply keep_alloc) | exact HK.out)⟩, ⟨by repeat (first | (with_reducible first | exact HB.out | apply below_alloc | apply pw_below_drewN | apply below_drew1 | refine below_set ?_ (IsS28.ge HI0.out)) | exact HB.out)⟩⟩
            case round =>
             clear H'
             try clear c2
             try clear c2b0
             try clear c2b1
             try clear p2
             try clear q2
             try clear c3
             try clear c3b0
             try clear c3b1
             try clear c4
             try clear c4b0
             try clear c5
             try clear c5b0
             try clear p6
             try clear q6
             try clear hx6
             try clear hf6
             try clear c8
             try clear p8
             try clear q8
             try clear hx8
             try clear c20
             try clear c20b0
             try clear c21
             try clear c21b0
             try clear c22
             try clear c22b0
             try clear c23
             try clear c23b0
             try clear q24
             try clear c25
             try clear c30
             try clear c30b0
             try clear c31
             try clear c31b0
             try clear c32
             try clear c32b0
             try clear c33
             try clear c33b0
             try clear c34
             try clear c42
             try clear c42b0
             try clear c43
             try clear c43b0
             try clear c44
             try clear c44b0
             try clear c45
             try clear hcz10_0
             try clear hcz10_1
             try clear hcz10_2
             try clear hcz10_3
             try clear hcz13_0
             try clear hcz13_1
             try clear hcz13_2
             try clear hcz13_3
             try clear hcz27_0
             try clear hcz27_1
             try clear hcz27_2
             try clear hcz27_3
             try clear hcz48_0
             try clear hcz48_1
             try clear hcz48_2
             try clear hcz48_3
             try clear hcz7_0
             try clear hcz7_1
             try clear hcz7_2
             try clear hcz7_3
             try clear hfz10_0
             try clear hfz10_1
             try clear hfz13_0
             try clear hfz13_1
             try clear hfz27_0
             try clear hfz27_1
             try clear hfz48_0
             try clear hfz48_1
             try clear hfz7_0
             try clear hfz7_1
             try clear hx6_0
             try clear hx822_0
             try clear hx823_0
             try clear hx827_0
             try clear hx828_0
             try clear hx832_0
             try clear hx836_0
             try clear p2
             try clear p6
             try clear p8
             try clear p822
             try clear p823
             try clear p827
             try clear p828
             try clear p832
             try clear p836
             try clear q2
             try clear q24
             try clear q6
             try clear q8
             try clear q822
             try clear q823
             try clear q827
             try clear q828
             try clear q832
             try clear q836
             obtain ⟨x4_2, x5_2, x6_2, x7_2, x13_2, rfl, HA, HK2, HO_4, HO_5, HO_6, HO_7, HI0, HK, HB⟩ := hrel
             have hl4_2 := (Kd.R_reads' HO_4.out).1
             rw [hl4_2] at HO_4
             (try simp only [hl4_2])
             (try simp only [hl4_2] at HO_5)
             (try simp only [hl4_2] at HO_6)
             (try simp only [hl4_2] at HO_7)
             cases gk with
             | zero => exact absurd HA.out (by simp [spec_l01First.l3])
             | succ k2 =>
              have H := HA.out
              clear HA
              simp only [spec_l01First.l3] at H
              by_cases c49 : 0 ≤ x8_1
              ·rw [if_pos c49] at H
               have c49b0 : decide (0 ≤ x8_1) = true := decide_eq_true c49
               clear c49
               by_cases c50 : x8_1 < (x5_2.length : Int)
               ·rw [if_pos c50] at H
                have c50b0 : decide (x8_1 < (x5_2.length : Int)) = true := decide_eq_true c50
                clear c50
                by_cases c51 : 0 ≤ (rd x5_2 x8_1)
                ·rw [if_pos c51] at H
                 have c51b0 : decide (0 ≤ (rd x5_2 x8_1)) = true := decide_eq_true c51
                 clear c51
                 by_cases c52 : (rd x5_2 x8_1) < (s0_3.length : Int)
                 ·rw [if_pos c52] at H
                  have c52b0 : decide ((rd x5_2 x8_1) < (s0_3.length : Int)) = true := decide_eq_true c52
                  clear c52
                  by_cases c53 : x13_2 < ((rd_L2 s0_3 (rd x5_2 x8_1)).length : Int)
                  ·rw [if_pos c53] at H
                   have c53b0 : decide (x13_2 < ((rd_L2 s0_3 (rd x5_2 x8_1)).length : Int)) = true := decide_eq_true c53
                   clear c53
                   by_cases c54 : 0 ≤ x13_2
                   ·rw [if_pos c54] at H
                    have c54b0 : decide (0 ≤ x13_2) = true := decide_eq_true c54
                    clear c54
                    by_cases c55 : 0 ≤ (rd (rd_L2 s0_3 (rd x5_2 x8_1)) x13_2)
                    ·rw [if_pos c55] at H
                     have c55b0 : decide (0 ≤ (rd (rd_L2 s0_3 (rd x5_2 x8_1)) x13_2)) = true := decide_eq_true c55
                     clear c55
                     by_cases c56 : (rd (rd_L2 s0_3 (rd x5_2 x8_1)) x13_2) < (x4_2.length : Int)
                     ·rw [if_pos c56] at H
                      have c56b0 : decide ((rd (rd_L2 s0_3 (rd x5_2 x8_1)) x13_2) < (x4_2.length : Int)) = true := decide_eq_true c56
                      clear c56
                      obtain ⟨bq57, hbq57⟩ : ∃ b_ : Bool, b_ = (rdOf false x4_2 (rd (rd_L2 s0_3 (rd x5_2 x8_1)) x13_2)) := ⟨_, rfl⟩
                      replace H : (if (bq57 = true) then (spec_l01First.l3 k2 x4_2 x5_2 x6_2 x7_2 x8_1 (wrap64 (x13_2 + 1)) s0_0 s0_1 s0_2 s0_3) else (if x5_2.length < 17592186044416 then (if x6_2.length < 17592186044416 then (if x7_2.length < 17592186044416 then (spec_l01First.l3 k2 (x4_2.set ((rd (rd_L2 s0_3 (rd x5_2 x8_1)) x13_2) : Int).toNat true) (x5_2 ++ [rd (rd_L2 s0_3 (rd x5_2 x8_1)) x13_2]) (x6_2 ++ [x8_1]) (x7_2 ++ [x13_2]) x8_1 (wrap64 (x13_2 + 1)) s0_0 s0_1 s0_2 s0_3) else (none)) else (none)) else (none))) = some (r1, r2, r3, r4) := by rw [← hbq57] at H; exact H
                      have Nbq57 := Aside0.mk hbq57
                      clear hbq57
                      by_cases c58 : (bq57 = true)
                      ·subst c58
                       have H1 : (spec_l01First.l3 k2 x4_2 x5_2 x6_2 x7_2 x8_1 (wrap64 (x13_2 + 1)) s0_0 s0_1 s0_2 s0_3) = some (r1, r2, r3, r4) := by rw [if_pos rfl] at H; exact H
                       clear H
                       have H := H1
                       clear H1
                       have H' := Aside0.mk H
                       clear H
                       obtain ⟨ASz59_2, cSz59_2, ASz59_3, cSz59_3, HGz59, hgz59, HSz59_2, HSz59_3⟩ := HI0.out
                       have hcz59_0 := cellS28_0 HGz59
                       have hcz59_1 := cellS28_1 HGz59
                       have hcz59_2 := cellS28_2 HGz59
                       have hcz59_3 := cellS28_3 HGz59
                       have hfz59_0 := blk_frozen HGz59 0
                       have hfz59_1 := blk_frozen HGz59 1
                       clear HGz59 hgz59
                       obtain ⟨Ao60, co60, eo60⟩ := Kd.R_slice HO_5.out
                       subst eo60
                       have p840 : 0 ≤ (x8_1 : Int) := of_decide_eq_true (by first | (with_reducible assumption) | assumption)
                       have q840 : x8_1 < (x5_2.length : Int) := of_decide_eq_true (by first | (with_reducible assumption) | assumption)
                       obtain ⟨ad840, e840, hx840_0⟩ := Kd.at_int (Kd.R_reads' HO_5.out).2.2 x8_1 p840 q840
                       cases e840
                       replace p840 := eq_true p840
                       replace q840 := eq_true q840
                       have p841 : 0 ≤ ((rd x5_2 x8_1) : Int) := of_decide_eq_true (by first | (with_reducible assumption) | assumption)
                       have q841 : (rd x5_2 x8_1) < (s0_3.length : Int) := of_decide_eq_true (by first | (with_reducible assumption) | assumption)
                       obtain ⟨ad841, A841_0, c841_0, e841, hx841_0, hl841_0, hi841_0⟩ := at_L2 HSz59_3 (rd x5_2 x8_1) p841 q841
                       cases e841
                       replace hx841_0 := pw_cell_below HB.out hx841_0
                       have HR841_0 := Aside0.mk hi841_0
                       have HC841_0 := Aside0.mk hl841_0
                       clear hi841_0 hl841_0
                       replace p841 := eq_true p841
                       replace q841 := eq_true q841
                       have p842 : 0 ≤ (x8_1 : Int) := of_decide_eq_true (by first | (with_reducible assumption) | assumption)
                       have q842 : x8_1 < (x5_2.length : Int) := of_decide_eq_true (by first | (with_reducible assumption) | assumption)
                       obtain ⟨ad842, e842, hx842_0⟩ := Kd.at_int (Kd.R_reads' HO_5.out).2.2 x8_1 p842 q842
                       obtain rfl : ad840 = ad842 := (by injection e842)
                       replace p842 := eq_true p842
                       replace q842 := eq_true q842
                       have p843 : 0 ≤ ((rd x5_2 x8_1) : Int) := of_decide_eq_true (by first | (with_reducible assumption) | assumption)
                       have q843 : (rd x5_2 x8_1) < (s0_3.length : Int) := of_decide_eq_true (by first | (with_reducible assumption) | assumption)
                       obtain ⟨ad843, A843_0, c843_0, e843, hx843_0, hl843_0, hi843_0⟩ := at_L2 HSz59_3 (rd x5_2 x8_1) p843 q843
                       obtain rfl : ad841 = ad843 := (by injection e843)
                       replace hx843_0 := pw_cell_below HB.out hx843_0
                       try (have hxe_ := hx841_0.symm.trans hx843_0; injection hxe_ with hxe_; injection hxe_ with hA_ hl_ hc_; subst hA_; subst hc_)
                       have HR843_0 := Aside0.mk hi843_0
                       have HC843_0 := Aside0.mk hl843_0
                       clear hi843_0 hl843_0
                       replace p843 := eq_true p843
                       replace q843 := eq_true q843
                       have p844 : 0 ≤ (x13_2 : Int) := of_decide_eq_true (by first | (with_reducible assumption) | assumption)
                       have q844 : x13_2 < ((rd_L2 s0_3 (rd x5_2 x8_1)).length : Int) := of_decide_eq_true (by first | (with_reducible assumption) | assumption)
                       obtain ⟨ad844, e844, hx844_0⟩ := Kd.at_int HR843_0.out x13_2 p844 q844
                       cases e844
                       replace hx844_0 := (by first | exact keep_cell HK.out hx844_0 (by first | (rw [add_block]; exact hf843_0 _ rfl (by omega)) | exact hf843_0 _ rfl (by omega) | exact hf843_0 ad844 rfl (by omega)) | exact pw_cell_below HB.out hx844_0)
                       replace p844 := eq_true p844
                       replace q844 := eq_true q844
                       have p845 : 0 ≤ ((rd (rd_L2 s0_3 (rd x5_2 x8_1)) x13_2) : Int) := of_decide_eq_true (by first | (with_reducible assumption) | assumption)
                       have q845 : (rd (rd_L2 s0_3 (rd x5_2 x8_1)) x13_2) < (x4_2.length : Int) := of_decide_eq_true (by first | (with_reducible assumption) | assumption)
                       obtain ⟨ad845, e845, hx845_0⟩ := Kd.at_bool (Kd.R_reads' HO_4.out).2.2 (rd (rd_L2 s0_3 (rd x5_2 x8_1)) x13_2) p845 q845
                       (try rw [← Nbq24.out] at hx845_0)
                       (try rw [← Nbq57.out] at hx845_0)
                       obtain rfl : (⟨go6, 0, none⟩ : Addr) = ad845 := (by injection e845)
                       (first | simp only [add_plain] at hx845_0 | simp only [add_at] at hx845_0 | simp only [Addr.add, Nat.zero_add] at hx845_0 | skip)
                       replace p845 := eq_true p845
                       replace q845 := eq_true q845
                       go_wp2
                       repeat (go_quiet (fail); try go_wp2)
                       (try simp only [← hl4_2])
                       go_roundg k2
                       case measure => have := HK1.out; have := HK2.out; omega
                       case rel => exact ⟨(x4_2), (x5_2), (x6_2), (x7_2), (wrap64 (x13_2 + 1)), (by first | rfl | (simp; done) | (simp [*]; done)), H', ⟨by have := HK1.out; have := HK2.out; omega⟩, ⟨by (try simp only [hl4_1]); (try simp only [hl4_2]); (with_reducible repeat (first | apply Kd.R_alloc | apply Kd.R_drewN | apply Kd.R_drew)); exact HO_4.out⟩, ⟨by (try simp only [hl4_1]); (try simp only [hl4_2]); (with_reducible repeat (first | apply Kd.R_alloc | apply Kd.R_drewN | apply Kd.R_drew)); exact HO_5.out⟩, ⟨by (try simp only [hl4_1]); (try simp only [hl4_2]); (with_reducible repeat (first | apply Kd.R_alloc | apply Kd.R_drewN | apply Kd.R_drew)); exact HO_6.out⟩, ⟨by (try simp only [hl4_1]); (try simp only [hl4_2]); (with_reducible repeat (first | apply Kd.R_alloc | apply Kd.R_drewN | apply Kd.R_drew)); exact HO_7.out⟩, ⟨by repeat (first | (with_reducible first | exact HI0.out | apply IsS28.alloc | apply IsS28.drewN | apply IsS28.drew | apply IsS28.set_0 | apply IsS28.set_1) | exact HI0.out)⟩, ⟨by repeat (first | (with_reducible first | exact HK.out | apply KeepBut.set_ | apply keep_drewN | apply keep_drew | apply keep_alloc) | exact HK.out)⟩, ⟨by repeat (first | (with_reducible first | exact HB.out | apply below_alloc | apply pw_below_drewN | apply below_drew1 | refine below_set ?_ (IsS28.ge HI0.out)) | exact HB.out)⟩⟩
                      ·replace c58 := Bool.eq_false_iff.mpr c58
                       subst c58
                       have H1 : (if x5_2.length < 17592186044416 then (if x6_2.length < 17592186044416 then (if x7_2.length < 17592186044416 then (spec_l01First.l3 k2 (x4_2.set ((rd (rd_L2 s0_3 (rd x5_2 x8_1)) x13_2) : Int).toNat true) (x5_2 ++ [rd (rd_L2 s0_3 (rd x5_2 x8_1)) x13_2]) (x6_2 ++ [x8_1]) (x7_2 ++ [x13_2]) x8_1 (wrap64 (x13_2 + 1)) s0_0 s0_1 s0_2 s0_3) else (none)) else (none)) else (none)) = some (r1, r2, r3, r4) := by rw [if_neg (show ¬ (false = true) by decide)] at H; exact H
                       clear H
                       have H := H1
                       clear H1
                       obtain ⟨y846, hy846⟩ : ∃ y_ : List Bool, y_ = (x4_2.set ((rd (rd_L2 s0_3 (rd x5_2 x8_1)) x13_2) : Int).toNat true) := ⟨_, rfl⟩
                       replace H : (if x5_2.length < 17592186044416 then (if x6_2.length < 17592186044416 then (if x7_2.length < 17592186044416 then (spec_l01First.l3 k2 y846 (x5_2 ++ [rd (rd_L2 s0_3 (rd x5_2 x8_1)) x13_2]) (x6_2 ++ [x8_1]) (x7_2 ++ [x13_2]) x8_1 (wrap64 (x13_2 + 1)) s0_0 s0_1 s0_2 s0_3) else (none)) else (none)) else (none)) = some (r1, r2, r3, r4) := by first | (rw [hy846]; with_reducible exact H) | (have H2_ := (Option.bind_some _ _).symm.trans H; rw [hy846]; with_reducible exact H2_) | (have H2_ := (Option.bind_some _ _).symm.trans H; with_reducible exact H2_) | with_reducible exact H | (rw [hy846]; exact H) | exact H
                       have Ny846 := Aside0.mk hy846
                       clear hy846
                       by_cases c62 : x5_2.length < 17592186044416
                       ·rw [if_pos c62] at H
                        have LMc62 := Aside0.mk c62
                        clear c62
                        obtain ⟨y847, hy847⟩ : ∃ y_ : List Int, y_ = (x5_2 ++ [rd (rd_L2 s0_3 (rd x5_2 x8_1)) x13_2]) := ⟨_, rfl⟩
                        replace H : (if x6_2.length < 17592186044416 then (if x7_2.length < 17592186044416 then (spec_l01First.l3 k2 y846 y847 (x6_2 ++ [x8_1]) (x7_2 ++ [x13_2]) x8_1 (wrap64 (x13_2 + 1)) s0_0 s0_1 s0_2 s0_3) else (none)) else (none)) = some (r1, r2, r3, r4) := by first | (rw [hy847]; with_reducible exact H) | (have H2_ := (Option.bind_some _ _).symm.trans H; rw [hy847]; with_reducible exact H2_) | (have H2_ := (Option.bind_some _ _).symm.trans H; with_reducible exact H2_) | with_reducible exact H | (rw [hy847]; exact H) | exact H
                        have Ny847 := Aside0.mk hy847
                        clear hy847
                        by_cases c63 : x6_2.length < 17592186044416
                        ·rw [if_pos c63] at H
                         have LMc63 := Aside0.mk c63
                         clear c63
                         obtain ⟨y850, hy850⟩ : ∃ y_ : List Int, y_ = (x6_2 ++ [x8_1]) := ⟨_, rfl⟩
                         replace H : (if x7_2.length < 17592186044416 then (spec_l01First.l3 k2 y846 y847 y850 (x7_2 ++ [x13_2]) x8_1 (wrap64 (x13_2 + 1)) s0_0 s0_1 s0_2 s0_3) else (none)) = some (r1, r2, r3, r4) := by first | (rw [hy850]; with_reducible exact H) | (have H2_ := (Option.bind_some _ _).symm.trans H; rw [hy850]; with_reducible exact H2_) | (have H2_ := (Option.bind_some _ _).symm.trans H; with_reducible exact H2_) | with_reducible exact H | (rw [hy850]; exact H) | exact H
                         have Ny850 := Aside0.mk hy850
                         clear hy850
                         by_cases c64 : x7_2.length < 17592186044416
                         ·rw [if_pos c64] at H
                          have LMc64 := Aside0.mk c64
                          clear c64
                          obtain ⟨y853, hy853⟩ : ∃ y_ : List Int, y_ = (x7_2 ++ [x13_2]) := ⟨_, rfl⟩
                          replace H : (spec_l01First.l3 k2 y846 y847 y850 y853 x8_1 (wrap64 (x13_2 + 1)) s0_0 s0_1 s0_2 s0_3) = some (r1, r2, r3, r4) := by first | (rw [hy853]; with_reducible exact H) | (have H2_ := (Option.bind_some _ _).symm.trans H; rw [hy853]; with_reducible exact H2_) | (have H2_ := (Option.bind_some _ _).symm.trans H; with_reducible exact H2_) | with_reducible exact H | (rw [hy853]; exact H) | exact H
                          have Ny853 := Aside0.mk hy853
                          clear hy853
                          have H' := Aside0.mk H
                          clear H
                          obtain ⟨ASz65_2, cSz65_2, ASz65_3, cSz65_3, HGz65, hgz65, HSz65_2, HSz65_3⟩ := HI0.out
                          have hcz65_0 := cellS28_0 HGz65
                          have hcz65_1 := cellS28_1 HGz65
                          have hcz65_2 := cellS28_2 HGz65
                          have hcz65_3 := cellS28_3 HGz65
                          have hfz65_0 := blk_frozen HGz65 0
                          have hfz65_1 := blk_frozen HGz65 1
                          clear HGz65 hgz65
                          obtain ⟨Ao66, co66, eo66⟩ := Kd.R_slice HO_5.out
                          subst eo66
                          have p840 : 0 ≤ (x8_1 : Int) := of_decide_eq_true (by first | (with_reducible assumption) | assumption)
                          have q840 : x8_1 < (x5_2.length : Int) := of_decide_eq_true (by first | (with_reducible assumption) | assumption)
                          obtain ⟨ad840, e840, hx840_0⟩ := Kd.at_int (Kd.R_reads' HO_5.out).2.2 x8_1 p840 q840
                          cases e840
                          replace p840 := eq_true p840
                          replace q840 := eq_true q840
                          have p841 : 0 ≤ ((rd x5_2 x8_1) : Int) := of_decide_eq_true (by first | (with_reducible assumption) | assumption)
                          have q841 : (rd x5_2 x8_1) < (s0_3.length : Int) := of_decide_eq_true (by first | (with_reducible assumption) | assumption)
                          obtain ⟨ad841, A841_0, c841_0, e841, hx841_0, hl841_0, hi841_0⟩ := at_L2 HSz65_3 (rd x5_2 x8_1) p841 q841
                          cases e841
                          replace hx841_0 := pw_cell_below HB.out hx841_0
                          have HR841_0 := Aside0.mk hi841_0
                          have HC841_0 := Aside0.mk hl841_0
                          clear hi841_0 hl841_0
                          replace p841 := eq_true p841
                          replace q841 := eq_true q841
                          have p842 : 0 ≤ (x8_1 : Int) := of_decide_eq_true (by first | (with_reducible assumption) | assumption)
                          have q842 : x8_1 < (x5_2.length : Int) := of_decide_eq_true (by first | (with_reducible assumption) | assumption)
                          obtain ⟨ad842, e842, hx842_0⟩ := Kd.at_int (Kd.R_reads' HO_5.out).2.2 x8_1 p842 q842
                          obtain rfl : ad840 = ad842 := (by injection e842)
                          replace p842 := eq_true p842
                          replace q842 := eq_true q842
                          have p843 : 0 ≤ ((rd x5_2 x8_1) : Int) := of_decide_eq_true (by first | (with_reducible assumption) | assumption)
                          have q843 : (rd x5_2 x8_1) < (s0_3.length : Int) := of_decide_eq_true (by first | (with_reducible assumption) | assumption)
                          obtain ⟨ad843, A843_0, c843_0, e843, hx843_0, hl843_0, hi843_0⟩ := at_L2 HSz65_3 (rd x5_2 x8_1) p843 q843
                          obtain rfl : ad841 = ad843 := (by injection e843)
                          replace hx843_0 := pw_cell_below HB.out hx843_0
                          try (have hxe_ := hx841_0.symm.trans hx843_0; injection hxe_ with hxe_; injection hxe_ with hA_ hl_ hc_; subst hA_; subst hc_)
                          have HR843_0 := Aside0.mk hi843_0
                          have HC843_0 := Aside0.mk hl843_0
                          clear hi843_0 hl843_0
                          replace p843 := eq_true p843
                          replace q843 := eq_true q843
                          have p844 : 0 ≤ (x13_2 : Int) := of_decide_eq_true (by first | (with_reducible assumption) | assumption)
                          have q844 : x13_2 < ((rd_L2 s0_3 (rd x5_2 x8_1)).length : Int) := of_decide_eq_true (by first | (with_reducible assumption) | assumption)
                          obtain ⟨ad844, e844, hx844_0⟩ := Kd.at_int HR843_0.out x13_2 p844 q844
                          cases e844
                          replace hx844_0 := (by first | exact keep_cell HK.out hx844_0 (by first | (rw [add_block]; exact hf843_0 _ rfl (by omega)) | exact hf843_0 _ rfl (by omega) | exact hf843_0 ad844 rfl (by omega)) | exact pw_cell_below HB.out hx844_0)
                          replace p844 := eq_true p844
                          replace q844 := eq_true q844
                          have p845 : 0 ≤ ((rd (rd_L2 s0_3 (rd x5_2 x8_1)) x13_2) : Int) := of_decide_eq_true (by first | (with_reducible assumption) | assumption)
                          have q845 : (rd (rd_L2 s0_3 (rd x5_2 x8_1)) x13_2) < (x4_2.length : Int) := of_decide_eq_true (by first | (with_reducible assumption) | assumption)
                          obtain ⟨ad845, e845, hx845_0⟩ := Kd.at_bool (Kd.R_reads' HO_4.out).2.2 (rd (rd_L2 s0_3 (rd x5_2 x8_1)) x13_2) p845 q845
                          (try rw [← Nbq24.out] at hx845_0)
                          (try rw [← Nbq57.out] at hx845_0)
                          obtain rfl : (⟨go6, 0, none⟩ : Addr) = ad845 := (by injection e845)
                          (first | simp only [add_plain] at hx845_0 | simp only [add_at] at hx845_0 | simp only [Addr.add, Nat.zero_add] at hx845_0 | skip)
                          replace p845 := eq_true p845
                          replace q845 := eq_true q845
                          have p61 : 0 ≤ ((rd (rd_L2 s0_3 (rd x5_2 x8_1)) x13_2) : Int) := of_decide_eq_true (by first | (with_reducible assumption) | assumption)
                          have q61 : ((rd (rd_L2 s0_3 (rd x5_2 x8_1)) x13_2) : Int) < ((x4_2.length : Int) : Int) := of_decide_eq_true (by first | (with_reducible assumption) | assumption)
                          obtain ⟨hx61_0, hf61_0⟩ := Kd.R_celln false HO_4.out ((rd (rd_L2 s0_3 (rd x5_2 x8_1)) x13_2) : Int) p61 q61
                          replace p61 := eq_true p61
                          replace q61 := eq_true q61
                          have HP67 := Kd.R_putg HO_4.out ((rd (rd_L2 s0_3 (rd x5_2 x8_1)) x13_2) : Int) true
                          go_wp2_with (first | ((with_reducible refine gate_store (t := 4) (p := 119) rfl ?_); (try (rw [drewN_self wr]; generalize hq_ : World.drewN wr _ = wr; have n0_ := Aside0.mk (Kd.R_at hq_ HO_4.out); have n1_ := Aside0.mk (Kd.R_at hq_ HO_5.out); have n2_ := Aside0.mk (Kd.R_at hq_ HO_6.out); have n3_ := Aside0.mk (Kd.R_at hq_ HO_7.out); have n4_ := Aside0.mk (IsS28.at_ hq_ HI0.out); have n5_ := Aside0.mk (keep_at hq_ HK.out); have n6_ := Aside0.mk (below_at hq_ HB.out); clear hq_ HO_4 HO_5 HO_6 HO_7 HI0 HK HB; have HO_4 := n0_; have HO_5 := n1_; have HO_6 := n2_; have HO_7 := n3_; have HI0 := n4_; have HK := n5_; have HB := n6_; clear n0_ n1_ n2_ n3_ n4_ n5_ n6_; (try (have HP67 := Kd.R_putg HO_4.out ((rd (rd_L2 s0_3 (rd x5_2 x8_1)) x13_2) : Int) true)); (try (obtain ⟨hxs_, hfs_⟩ := Kd.R_celln false HO_4.out ((rd (rd_L2 s0_3 (rd x5_2 x8_1)) x13_2) : Int) (of_eq_true p61) (of_eq_true q61))))); refine store_event (t := 4) (p := 119) (v := ?vo_w68) (w1 := (wr.setCell ⟨go6, ((rd (rd_L2 s0_3 (rd x5_2 x8_1)) x13_2) : Int).toNat, none⟩ (.bool true))) ?hg ?ho ?hn ?hr ?_; (case ho => rfl); (case hg => rfl); (case hn => rfl); (case hr => first | (go_simp; done) | (go_simp; rfl)); intro w68 hw; have hg : wr.grownBy w68 (some go6) := (by rw [hw]; exact HP67.2); have hp_ : Kd.R Kd.bool 4 w68 w.heap.size (fun _ => True) (.slice (some ⟨go6, 0, none⟩) x4_2.length co6) y846 := (by rw [hw, Ny846.out]; exact HP67.1); clear HP67; have n0_ := Aside0.mk (hp_); have n1_ := Aside0.mk (Kd.R_over' (v := (.slice (some ⟨go6, 0, none⟩) x4_2.length co6)) (by (with_reducible repeat (first | apply Kd.R_alloc | apply Kd.R_drewN | apply Kd.R_drew)); exact HO_5.out) (Kd.R_typed HO_4.out) (by decide) hg); have n2_ := Aside0.mk (Kd.R_over' (v := (.slice (some ⟨go6, 0, none⟩) x4_2.length co6)) (by (with_reducible repeat (first | apply Kd.R_alloc | apply Kd.R_drewN | apply Kd.R_drew)); exact HO_6.out) (Kd.R_typed HO_4.out) (by decide) hg); have n3_ := Aside0.mk (Kd.R_over' (v := (.slice (some ⟨go6, 0, none⟩) x4_2.length co6)) (by (with_reducible repeat (first | apply Kd.R_alloc | apply Kd.R_drewN | apply Kd.R_drew)); exact HO_7.out) (Kd.R_typed HO_4.out) (by decide) hg); have n4_ := Aside0.mk (IsS28.grown (by repeat (first | (with_reducible first | exact HI0.out | apply IsS28.alloc | apply IsS28.drewN | apply IsS28.drew | apply IsS28.set_0 | apply IsS28.set_1) | exact HI0.out)) hg (IsS28.own_ne HI0.out HO_4.out (by decide))); have n5_ := Aside0.mk ((by rw [hw]; exact below_set (HB.out) (Nat.le_trans HL.out GB6.out) : Below w0.heap.size w0 w68)); have n6_ := Aside0.mk (KeepBut.trans (by repeat (first | (with_reducible first | exact HK.out | apply KeepBut.set_ | apply keep_drewN | apply keep_drew | apply keep_alloc) | exact HK.out)) (KeepBut.of_grown hg g) (Kd.R_base2 HO_4.out)); clear HO_4; clear HO_5; clear HO_6; clear HO_7; clear HI0; clear HB; clear HK; have HO_4 := n0_; have HO_5 := n1_; have HO_6 := n2_; have HO_7 := n3_; have HI0 := n4_; have HB := n5_; have HK := n6_; clear n0_ n1_ n2_ n3_ n4_ n5_ n6_; clear hg hw hp_) | ((with_reducible refine gate_builtin (b := .append) (xs := #[.tmp 120, .tmp 122]) rfl ?_); at_builtin; refine Kd.R_append (Kd.int .i64) w.heap.size rfl (.tmp 120) (.tmp 122) 55 2 (.int .i64 0) 8 rfl Tryd.underlying55 info2 rfl (by decide) (by omega) (.slice (some ad840) x5_2.length co66) x5_2 (rd (rd_L2 s0_3 (rd x5_2 x8_1)) x13_2) [.int .i64 (rd (rd_L2 s0_3 (rd x5_2 x8_1)) x13_2)] (fun k_ => some k_ ≠ (u7 : Value).ownBlock) (fun _ => False) rfl rfl ?aP (fun _ hk => hk.elim) ?aF ?aO (Below.refl _ _) ?aS ?aL ?_; (case aP => exact rfl); (case aF => exact (fun k_ hk => Kd.fresh' (Kd.R_lt (by (with_reducible repeat (first | apply Kd.R_alloc | apply Kd.R_drewN | apply Kd.R_drew)); exact HO_7.out)) k_ hk)); (case aO => exact (by (with_reducible repeat (first | apply Kd.R_alloc | apply Kd.R_drewN | apply Kd.R_drew)); exact HO_5.out)); (case aS => exact (keep_size (w := w) (g := g) (row := none) (by repeat (first | (with_reducible first | exact HK.out | apply KeepBut.set_ | apply keep_drewN | apply keep_drew | apply keep_alloc) | exact HK.out)))); (case aL => have := LMc62.out; omega); intro v848 w69 ho hb hg hat; rw [← Ny847.out] at ho; have n0_ := Aside0.mk (Kd.R_over' (by (with_reducible repeat (first | apply Kd.R_alloc | apply Kd.R_drewN | apply Kd.R_drew)); exact HO_4.out) (Kd.R_typed (by (with_reducible repeat (first | apply Kd.R_alloc | apply Kd.R_drewN | apply Kd.R_drew)); exact HO_5.out)) (by decide) hg); have n1_ := Aside0.mk (Kd.R_over' (by (with_reducible repeat (first | apply Kd.R_alloc | apply Kd.R_drewN | apply Kd.R_drew)); exact HO_6.out) (Kd.R_typed (by (with_reducible repeat (first | apply Kd.R_alloc | apply Kd.R_drewN | apply Kd.R_drew)); exact HO_5.out)) (by decide) hg); have n2_ := Aside0.mk (Kd.R_after (ok := (fun _ => True)) (by (with_reducible repeat (first | apply Kd.R_alloc | apply Kd.R_drewN | apply Kd.R_drew)); exact Kd.R_mono HO_7.out (fun _ hk => ⟨trivial, hk⟩)) hg hat); have n3_ := Aside0.mk (IsS28.grown (by repeat (first | (with_reducible first | exact HI0.out | apply IsS28.alloc | apply IsS28.drewN | apply IsS28.drew | apply IsS28.set_0 | apply IsS28.set_1) | exact HI0.out)) hg (IsS28.own_ne HI0.out HO_5.out (by decide))); have n4_ := Aside0.mk (below_weaken (by repeat (first | (with_reducible first | exact HB.out | apply below_alloc | apply pw_below_drewN | apply below_drew1 | refine below_set ?_ (IsS28.ge HI0.out)) | exact HB.out)) HL.out hb); have n5_ := Aside0.mk (KeepBut.trans (by repeat (first | (with_reducible first | exact HK.out | apply KeepBut.set_ | apply keep_drewN | apply keep_drew | apply keep_alloc) | exact HK.out)) (KeepBut.of_grown hg g) (Kd.R_base2 HO_5.out)); have n6_ := Aside0.mk (ho); clear HO_4; clear HO_6; clear HO_7; clear HI0; clear HB; clear HK; clear HO_5; have HO_4 := n0_; have HO_6 := n1_; have HO_7 := n2_; have HI0 := n3_; have HB := n4_; have HK := n5_; have HO849 := n6_; clear n0_ n1_ n2_ n3_ n4_ n5_ n6_; clear ho hb hg hat) | ((with_reducible refine gate_builtin (b := .append) (xs := #[.tmp 124, .tmp 126]) rfl ?_); at_builtin; refine Kd.R_append (Kd.int .i64) w.heap.size rfl (.tmp 124) (.tmp 126) 77 3 (.int .i64 0) 8 rfl Tryd.underlying77 info3 rfl (by decide) (by omega) u6 x6_2 x8_1 [.int .i64 x8_1] (fun _ => True) (fun _ => False) rfl rfl ?aP (fun _ hk => hk.elim) ?aF ?aO (Below.refl _ _) ?aS ?aL ?_; (case aP => exact rfl); (case aF => exact (fun _ _ => trivial)); (case aO => exact (by (with_reducible repeat (first | apply Kd.R_alloc | apply Kd.R_drewN | apply Kd.R_drew)); exact HO_6.out)); (case aS => exact (keep_size (w := w) (g := g) (row := none) (by repeat (first | (with_reducible first | exact HK.out | apply KeepBut.set_ | apply keep_drewN | apply keep_drew | apply keep_alloc) | exact HK.out)))); (case aL => have := LMc63.out; omega); intro v851 w70 ho hb hg hat; rw [← Ny850.out] at ho; have n0_ := Aside0.mk (Kd.R_over' (by (with_reducible repeat (first | apply Kd.R_alloc | apply Kd.R_drewN | apply Kd.R_drew)); exact HO_4.out) (Kd.R_typed (by (with_reducible repeat (first | apply Kd.R_alloc | apply Kd.R_drewN | apply Kd.R_drew)); exact HO_6.out)) (by decide) hg); have n1_ := Aside0.mk (Kd.R_over' (by (with_reducible repeat (first | apply Kd.R_alloc | apply Kd.R_drewN | apply Kd.R_drew)); exact HO_7.out) (Kd.R_typed (by (with_reducible repeat (first | apply Kd.R_alloc | apply Kd.R_drewN | apply Kd.R_drew)); exact HO_6.out)) (by decide) hg); have n2_ := Aside0.mk (IsS28.grown (by repeat (first | (with_reducible first | exact HI0.out | apply IsS28.alloc | apply IsS28.drewN | apply IsS28.drew | apply IsS28.set_0 | apply IsS28.set_1) | exact HI0.out)) hg (IsS28.own_ne HI0.out HO_6.out (by decide))); have n3_ := Aside0.mk (Kd.R_over' (by (with_reducible repeat (first | apply Kd.R_alloc | apply Kd.R_drewN | apply Kd.R_drew)); exact HO849.out) (Kd.R_typed (by (with_reducible repeat (first | apply Kd.R_alloc | apply Kd.R_drewN | apply Kd.R_drew)); exact HO_6.out)) (by decide) hg); have n4_ := Aside0.mk (below_weaken (by repeat (first | (with_reducible first | exact HB.out | apply below_alloc | apply pw_below_drewN | apply below_drew1 | refine below_set ?_ (IsS28.ge HI0.out)) | exact HB.out)) HL.out hb); have n5_ := Aside0.mk (KeepBut.trans (by repeat (first | (with_reducible first | exact HK.out | apply KeepBut.set_ | apply keep_drewN | apply keep_drew | apply keep_alloc) | exact HK.out)) (KeepBut.of_grown hg g) (Kd.R_base2 HO_6.out)); have n6_ := Aside0.mk (ho); clear HO_4; clear HO_7; clear HI0; clear HO849; clear HB; clear HK; clear HO_6; have HO_4 := n0_; have HO_7 := n1_; have HI0 := n2_; have HO849 := n3_; have HB := n4_; have HK := n5_; have HO852 := n6_; clear n0_ n1_ n2_ n3_ n4_ n5_ n6_; clear ho hb hg hat) | ((with_reducible refine gate_builtin (b := .append) (xs := #[.tmp 128, .tmp 130]) rfl ?_); at_builtin; refine Kd.R_append (Kd.int .i64) w.heap.size rfl (.tmp 128) (.tmp 130) 55 2 (.int .i64 0) 8 rfl Tryd.underlying55 info2 rfl (by decide) (by omega) u7 x7_2 x13_2 [.int .i64 x13_2] (fun k_ => some k_ ≠ (v848 : Value).ownBlock) (fun _ => False) rfl rfl ?aP (fun _ hk => hk.elim) ?aF ?aO (Below.refl _ _) ?aS ?aL ?_; (case aP => exact rfl); (case aF => exact (fun k_ hk => Kd.fresh' (Kd.R_lt (by (with_reducible repeat (first | apply Kd.R_alloc | apply Kd.R_drewN | apply Kd.R_drew)); exact HO849.out)) k_ hk)); (case aO => exact (by (with_reducible repeat (first | apply Kd.R_alloc | apply Kd.R_drewN | apply Kd.R_drew)); exact Kd.R_mono HO_7.out (fun _ hk => hk.2))); (case aS => exact (keep_size (w := w) (g := g) (row := none) (by repeat (first | (with_reducible first | exact HK.out | apply KeepBut.set_ | apply keep_drewN | apply keep_drew | apply keep_alloc) | exact HK.out)))); (case aL => have := LMc64.out; omega); intro v854 w71 ho hb hg hat; rw [← Ny853.out] at ho; have n0_ := Aside0.mk (Kd.R_over' (by (with_reducible repeat (first | apply Kd.R_alloc | apply Kd.R_drewN | apply Kd.R_drew)); exact HO_4.out) (Kd.R_typed (by (with_reducible repeat (first | apply Kd.R_alloc | apply Kd.R_drewN | apply Kd.R_drew)); exact HO_7.out)) (by decide) hg); have n1_ := Aside0.mk (IsS28.grown (by repeat (first | (with_reducible first | exact HI0.out | apply IsS28.alloc | apply IsS28.drewN | apply IsS28.drew | apply IsS28.set_0 | apply IsS28.set_1) | exact HI0.out)) hg (IsS28.own_ne HI0.out HO_7.out (by decide))); have n2_ := Aside0.mk (Kd.R_after (ok := (fun _ => True)) (by (with_reducible repeat (first | apply Kd.R_alloc | apply Kd.R_drewN | apply Kd.R_drew)); exact Kd.R_mono HO849.out (fun _ hk => ⟨trivial, hk⟩)) hg hat); have n3_ := Aside0.mk (Kd.R_over' (by (with_reducible repeat (first | apply Kd.R_alloc | apply Kd.R_drewN | apply Kd.R_drew)); exact HO852.out) (Kd.R_typed (by (with_reducible repeat (first | apply Kd.R_alloc | apply Kd.R_drewN | apply Kd.R_drew)); exact HO_7.out)) (by decide) hg); have n4_ := Aside0.mk (below_weaken (by repeat (first | (with_reducible first | exact HB.out | apply below_alloc | apply pw_below_drewN | apply below_drew1 | refine below_set ?_ (IsS28.ge HI0.out)) | exact HB.out)) HL.out hb); have n5_ := Aside0.mk (KeepBut.trans (by repeat (first | (with_reducible first | exact HK.out | apply KeepBut.set_ | apply keep_drewN | apply keep_drew | apply keep_alloc) | exact HK.out)) (KeepBut.of_grown hg g) (Kd.R_base2 HO_7.out)); have n6_ := Aside0.mk (ho); clear HO_4; clear HI0; clear HO849; clear HO852; clear HB; clear HK; clear HO_7; have HO_4 := n0_; have HI0 := n1_; have HO849 := n2_; have HO852 := n3_; have HB := n4_; have HK := n5_; have HO855 := n6_; clear n0_ n1_ n2_ n3_ n4_ n5_ n6_; clear ho hb hg hat) | go_quiet (fail))
                          (try simp only [← hl4_2])
                          go_roundg k2
                          case measure => have := HK1.out; have := HK2.out; omega
                          case rel => exact ⟨(y846), (y847), (y850), (y853), (wrap64 (x13_2 + 1)), (by first | rfl | (simp; done) | (simp [*]; done)), H', ⟨by have := HK1.out; have := HK2.out; omega⟩, ⟨by (try simp only [hl4_1]); (try simp only [hl4_2]); (with_reducible repeat (first | apply Kd.R_alloc | apply Kd.R_drewN | apply Kd.R_drew)); exact HO_4.out⟩, ⟨by (try simp only [hl4_1]); (try simp only [hl4_2]); (with_reducible repeat (first | apply Kd.R_alloc | apply Kd.R_drewN | apply Kd.R_drew)); exact Kd.R_mono HO849.out (fun _ hk => hk.2)⟩, ⟨by (try simp only [hl4_1]); (try simp only [hl4_2]); (with_reducible repeat (first | apply Kd.R_alloc | apply Kd.R_drewN | apply Kd.R_drew)); exact HO852.out⟩, ⟨by (try simp only [hl4_1]); (try simp only [hl4_2]); (with_reducible repeat (first | apply Kd.R_alloc | apply Kd.R_drewN | apply Kd.R_drew)); exact HO855.out⟩, ⟨by repeat (first | (with_reducible first | exact HI0.out | apply IsS28.alloc | apply IsS28.drewN | apply IsS28.drew | apply IsS28.set_0 | apply IsS28.set_1) | exact HI0.out)⟩, ⟨by repeat (first | (with_reducible first | exact HK.out | apply KeepBut.set_ | apply keep_drewN | apply keep_drew | apply keep_alloc) | exact HK.out)⟩, ⟨by repeat (first | (with_reducible first | exact HB.out | apply below_alloc | apply pw_below_drewN | apply below_drew1 | refine below_set ?_ (IsS28.ge HI0.out)) | exact HB.out)⟩⟩
                         ·rw [if_neg c64] at H
                          exact absurd H (by simp)
                        ·rw [if_neg c63] at H
                         exact absurd H (by simp)
                       ·rw [if_neg c62] at H
                        exact absurd H (by simp)
                     ·rw [if_neg c56] at H
                      exact absurd H (by simp)
                    ·rw [if_neg c55] at H
                     exact absurd H (by simp)
                   ·rw [if_neg c54] at H
                    exact absurd H (by simp)
                  ·rw [if_neg c53] at H
                   have c53b0 : decide (x13_2 < ((rd_L2 s0_3 (rd x5_2 x8_1)).length : Int)) = false := decide_eq_false c53
                   clear c53
                   have H' := Aside0.mk H
                   clear H
                   obtain ⟨ASz72_2, cSz72_2, ASz72_3, cSz72_3, HGz72, hgz72, HSz72_2, HSz72_3⟩ := HI0.out
                   have hcz72_0 := cellS28_0 HGz72
                   have hcz72_1 := cellS28_1 HGz72
                   have hcz72_2 := cellS28_2 HGz72
                   have hcz72_3 := cellS28_3 HGz72
                   have hfz72_0 := blk_frozen HGz72 0
                   have hfz72_1 := blk_frozen HGz72 1
                   clear HGz72 hgz72
                   obtain ⟨Ao73, co73, eo73⟩ := Kd.R_slice HO_5.out
                   subst eo73
                   have p840 : 0 ≤ (x8_1 : Int) := of_decide_eq_true (by first | (with_reducible assumption) | assumption)
                   have q840 : x8_1 < (x5_2.length : Int) := of_decide_eq_true (by first | (with_reducible assumption) | assumption)
                   obtain ⟨ad840, e840, hx840_0⟩ := Kd.at_int (Kd.R_reads' HO_5.out).2.2 x8_1 p840 q840
                   cases e840
                   replace p840 := eq_true p840
                   replace q840 := eq_true q840
                   have p841 : 0 ≤ ((rd x5_2 x8_1) : Int) := of_decide_eq_true (by first | (with_reducible assumption) | assumption)
                   have q841 : (rd x5_2 x8_1) < (s0_3.length : Int) := of_decide_eq_true (by first | (with_reducible assumption) | assumption)
                   obtain ⟨ad841, A841_0, c841_0, e841, hx841_0, hl841_0, hi841_0⟩ := at_L2 HSz72_3 (rd x5_2 x8_1) p841 q841
                   cases e841
                   replace hx841_0 := pw_cell_below HB.out hx841_0
                   have HR841_0 := Aside0.mk hi841_0
                   have HC841_0 := Aside0.mk hl841_0
                   clear hi841_0 hl841_0
                   replace p841 := eq_true p841
                   replace q841 := eq_true q841
                   go_wp2
                   repeat (go_quiet (fail); try go_wp2)
                   (try simp only [← hl4_1, ← hl4_2])
                   go_roundg k2
                   case measure => have := HK1.out; have := HK2.out; omega
                   case rel => exact ⟨(x4_2), (x5_2), (x6_2), (x7_2), (wrap64 (x8_1 + 1)), (by first | rfl | (simp; done) | (simp [*]; done)), H', ⟨by have := HK1.out; have := HK2.out; omega⟩, ⟨by (try simp only [hl4_1]); (try simp only [hl4_2]); (with_reducible repeat (first | apply Kd.R_alloc | apply Kd.R_drewN | apply Kd.R_drew)); exact HO_4.out⟩, ⟨by (try simp only [hl4_1]); (try simp only [hl4_2]); (with_reducible repeat (first | apply Kd.R_alloc | apply Kd.R_drewN | apply Kd.R_drew)); exact HO_5.out⟩, ⟨by (try simp only [hl4_1]); (try simp only [hl4_2]); (with_reducible repeat (first | apply Kd.R_alloc | apply Kd.R_drewN | apply Kd.R_drew)); exact HO_6.out⟩, ⟨by (try simp only [hl4_1]); (try simp only [hl4_2]); (with_reducible repeat (first | apply Kd.R_alloc | apply Kd.R_drewN | apply Kd.R_drew)); exact HO_7.out⟩, ⟨by repeat (first | (with_reducible first | exact HI0.out | apply IsS28.alloc | apply IsS28.drewN | apply IsS28.drew | apply IsS28.set_0 | apply IsS28.set_1) | exact HI0.out)⟩, ⟨by repeat (first | (with_reducible first | exact HK.out | apply KeepBut.set_ | apply keep_drewN | apply keep_drew | apply keep_alloc) | exact HK.out)⟩, ⟨by repeat (first | (with_reducible first | exact HB.out | apply below_alloc | apply pw_below_drewN | apply below_drew1 | refine below_set ?_ (IsS28.ge HI0.out)) | exact HB.out)⟩⟩
                 ·rw [if_neg c52] at H
                  exact absurd H (by simp)
                ·rw [if_neg c51] at H
                 exact absurd H (by simp)
               ·rw [if_neg c50] at H
                exact absurd H (by simp)
              ·rw [if_neg c49] at H
               exact absurd H (by simp)
          ·rw [if_neg c23] at H
           exact absurd H (by simp)
         ·rw [if_neg c22] at H
          exact absurd H (by simp)
        ·rw [if_neg c21] at H
         exact absurd H (by simp)
       ·rw [if_neg c20] at H
        have c20b0 : decide (x8_1 < (x5_1.length : Int)) = false := decide_eq_false c20
        clear c20
        obtain ⟨y819, hy819⟩ : ∃ y_ : List Int, y_ = (([] : List Int)) := ⟨_, rfl⟩
        replace H : (some (y819, false, s0_0, s0_1)) = some (r1, r2, r3, r4) := by first | (rw [hy819]; with_reducible exact H) | (have H2_ := (Option.bind_some _ _).symm.trans H; rw [hy819]; with_reducible exact H2_) | (have H2_ := (Option.bind_some _ _).symm.trans H; with_reducible exact H2_) | with_reducible exact H | (rw [hy819]; exact H) | exact H
        have Ny819 := Aside0.mk hy819
        clear hy819
        simp only [Option.some.injEq, Prod.mk.injEq] at H
        obtain ⟨rfl, rfl, rfl, rfl⟩ := H
        obtain ⟨Ao74, co74, eo74⟩ := Kd.R_slice HO_5.out
        subst eo74
        go_wp2_with (first | ((with_reducible refine gate_dst (N := 132) rfl ?_); refine Kd.R_lit (Kd.int .i64) _ 2 ?hg (N := 132) ?hd (xs := ([] : List Int)) (inner := []) (ok := fun _ => True) (okp := fun _ => True) ?hr ?hp (fun _ hk => hk) trivial (Below.refl _ _) (Nat.le_refl _) (by simp) ?_; (case hd => rfl); (case hg => rfl); (case hr => first | (go_simp; done) | (go_simp; rfl)); (case hp => exact (Reps.none _ _)); intro v820 w75 ho76 hb hg_ hnew_; clear hg_ hnew_; (first | rw [← Ny819.out] at ho76 | (simp only [Int.reduceToNat] at ho76; rw [← Ny819.out] at ho76)); have n0_ := Aside0.mk (Kd.R_below (by (with_reducible repeat (first | apply Kd.R_alloc | apply Kd.R_drewN | apply Kd.R_drew)); exact HO_4.out) hb); have n1_ := Aside0.mk (Kd.R_elder' (by (with_reducible repeat (first | apply Kd.R_alloc | apply Kd.R_drewN | apply Kd.R_drew)); exact HO_5.out) (Kd.R_base ho76) hb); have n2_ := Aside0.mk (Kd.R_below (by (with_reducible repeat (first | apply Kd.R_alloc | apply Kd.R_drewN | apply Kd.R_drew)); exact HO_6.out) hb); have n3_ := Aside0.mk (Kd.R_elder' (by (with_reducible repeat (first | apply Kd.R_alloc | apply Kd.R_drewN | apply Kd.R_drew)); exact HO_7.out) (Kd.R_base ho76) hb); have n4_ := Aside0.mk (Kd.R_lower (Kd.R_new' (Kd.R_new' ho76 (Kd.R_lt (by (with_reducible repeat (first | apply Kd.R_alloc | apply Kd.R_drewN | apply Kd.R_drew)); exact HO_5.out))) (Kd.R_lt (by (with_reducible repeat (first | apply Kd.R_alloc | apply Kd.R_drewN | apply Kd.R_drew)); exact HO_7.out))) (keep_size (w := w) (g := g) (row := none) (by repeat (first | (with_reducible first | exact HK.out | apply KeepBut.set_ | apply keep_drewN | apply keep_drew | apply keep_alloc) | exact HK.out)))); have n5_ := Aside0.mk (IsS28.below (by repeat (first | (with_reducible first | exact HI0.out | apply IsS28.alloc | apply IsS28.drewN | apply IsS28.drew | apply IsS28.set_0 | apply IsS28.set_1) | exact HI0.out)) hb); have n6_ := Aside0.mk (KeepBut.trans (by repeat (first | (with_reducible first | exact HK.out | apply KeepBut.set_ | apply keep_drewN | apply keep_drew | apply keep_alloc) | exact HK.out)) (KeepBut.of_below hb g none) (.inl rfl)); have n7_ := Aside0.mk (below_step (by repeat (first | (with_reducible first | exact HB.out | apply below_alloc | apply pw_below_drewN | apply below_drew1 | refine below_set ?_ (IsS28.ge HI0.out)) | exact HB.out)) hb); clear HO_4; clear HO_5; clear HO_6; clear HO_7; clear HI0; clear HK; clear HB; have HO_4 := n0_; have HO_5 := n1_; have HO_6 := n2_; have HO_7 := n3_; have HO821 := n4_; have HI0 := n5_; have HK := n6_; have HB := n7_; clear n0_ n1_ n2_ n3_ n4_ n5_ n6_ n7_; clear hb ho76) | go_quiet (fail))
        go_ret2
        exact ⟨_, by first | rfl | (simp [errW_none, errW_some] <;> rfl) | (simp [*, errW_none, errW_some] <;> rfl), by (with_reducible repeat (first | apply Kd.R_alloc | apply Kd.R_drewN | apply Kd.R_drew)); exact Kd.R_mono HO821.out (fun _ hk => trivial), by repeat (first | (with_reducible first | exact HI0.out | apply IsS28.alloc | apply IsS28.drewN | apply IsS28.drew | apply IsS28.set_0 | apply IsS28.set_1) | exact HI0.out), by repeat (first | (with_reducible first | exact HB.out | apply below_alloc | apply pw_below_drewN | apply below_drew1 | refine below_set ?_ (IsS28.ge HI0.out)) | exact HB.out), by repeat (first | (with_reducible first | exact HK.out | apply KeepBut.set_ | apply keep_drewN | apply keep_drew | apply keep_alloc) | exact HK.out)⟩
    ·rw [if_neg c5] at H
     exact absurd H (by simp)
   ·rw [if_neg c4] at H
    exact absurd H (by simp)
  ·rw [if_neg c3] at H
   exact absurd H (by simp)
 ·rw [if_neg c2] at H
  exact absurd H (by simp)
end Go.Proofs.YtbkcllfgolmloaaDoor.X

-- Written by a program of this claim's author, out of the translation.
namespace Go.Proofs.YtbkcllfgolmloaaDoor.X
open Go.RowKit Go.Proofs.YtbkcllfgolmloaaDoorW.PrintWords Go.Proofs.YtbkcllfgolmloaaDoorW.PrintLast Go.Proofs.YtbkcllfgolmloaaDoorW.PrintMore
attribute [local go_sem] max2_int min2_int max_two min_two max_three min_three max_four min_four   -- for this text's walks alone
set_option linter.unusedVariables false
set_option linter.unusedSimpArgs false
def spec_IsEmpty.f (k : Nat) (a0 : Int) (a1 : Int) (l2 : List Bool) (l3 : List (List Int)) : Option (Bool × Int) := (spec_l01Ok.f k a0 a1 l2 l3).bind fun b => if b.1 = true then
 (spec_l01Tidied.f k b.2.1 b.2.2 l2 l3).bind fun p => (spec_l01First.f k p.1 p.2.1 p.2.2.1 p.2.2.2.1).bind fun q => some (!q.2.1, 0) else some (false, 1)
set_option maxHeartbeats 8000000 in
set_option maxRecDepth 100000 in
theorem spec_IsEmpty.calls (k : Nat) (a0 : Int) (a1 : Int) (A2 : Option Addr) (c2 : Nat) (l2 : List Bool) (A3 : Option Addr) (c3 : Nat) (l3 : List (List Int)) (r1 : Bool) (r2 : Int) (w : World) (hr2 : Kd.C Kd.bool w A2 l2.length l2) (hc2 : l2.length ≤ c2) (hr3 : Kd.C (Kd.slice 2 (Kd.int .i64)) w A3 l3.length l3) (hc3 : l3.length ≤ c3) (h : spec_IsEmpty.f k a0 a1 l2 l3 = some (r1, r2)) :
  Calls Tryd.prog 42 #[.agg #[.int .i64 a0, .int .i64 a1, .slice A2 l2.length c2, .slice A3 l3.length c3]] w fun e w' => e = .returned (.tuple #[.bool r1, .int .i64 r2]) ∧ Below w.heap.size w w' := by
 unfold spec_IsEmpty.f at h
 obtain ⟨⟨b, q2, q3⟩, h1, h2⟩ := Option.bind_eq_some_iff.mp h
 have H1 := Aside0.mk h1
 have HI := Aside0.mk (IsS28.new w w A2 c2 A3 c3 a0 a1 l2 l3 (Below.refl _ _) hr2 hr3)
 clear h h1 hr2 hr3 hc2 hc3
 by_cases hb : b = true
 ·rw [if_pos hb] at h2
  subst hb
  obtain ⟨⟨p1, p2, p3, p4, p5, p6⟩, h3, h4⟩ := Option.bind_eq_some_iff.mp h2
  obtain ⟨⟨t1, t2, t3, t4⟩, h5, h6⟩ := Option.bind_eq_some_iff.mp h4
  simp only [Option.some.injEq, Prod.mk.injEq] at h6
  obtain ⟨rfl, rfl⟩ := h6
  have H3 := Aside0.mk h3
  have H5 := Aside0.mk h5
  clear h2 h3 h4 h5
  go_enter Tryd.func42, Tryd.ntmps42
  go_wp2_with (fail)
  with_reducible refine (spec_l01Ok.calls k w.heap.size a0 a1 l2 l3 true q2 q3 w _ HI.out (below_alloc (Below.refl _ _) _) H1.out).mono ?_
  rintro e w4 ⟨rfl, hi, hb4, hk4⟩
  have HI4 := Aside0.mk hi
  have HB4 := Aside0.mk hb4
  clear HI hi hb4 hk4
  go_wp2_with (fail)
  with_reducible refine (spec_l01Tidied.calls k w.heap.size q2 q3 l2 l3 p1 p2 p3 p4 p5 p6 w _ HI4.out HB4.out H3.out).mono ?_
  rintro e w5 ⟨v2, v3, rfl, hR, hS, hi, hb5, hk5⟩
  obtain ⟨B2, d2, hv2⟩ := Kd.R_slice hR
  subst hv2
  obtain ⟨B3, d3, hv3⟩ := Kd.S_slice hS
  subst hv3
  have HB5 := Aside0.mk hb5
  have HI5 := Aside0.mk (IsS28.new w5 w5 B2 d2 B3 d3 p1 p2 p3 p4 (Below.refl _ _) (Kd.R_reads' hR).2.2 (Kd.S_reads' hS).2.2)
  clear HI4 HB4 hR hS hi hb5 hk5
  go_wp2_with (fail)
  with_reducible refine (spec_l01First.calls k w5.heap.size p1 p2 p3 p4 t1 t2 t3 t4 w5 _ HI5.out (below_alloc (Below.refl _ _) _) H5.out).mono ?_
  rintro e w6 ⟨v0, rfl, hR, hi, hb6, hk6⟩
  have HB6 := Aside0.mk (below_then HB5.out HB5.out.size hb6)
  clear HI5 hR hi hb6 hk6 HB5
  go_wp2
  go_ret2
  exact ⟨rfl, HB6.out⟩
 ·rw [if_neg hb] at h2
  have hbf : b = false := by cases b <;> simp at hb ⊢
  subst hbf
  simp only [Option.some.injEq, Prod.mk.injEq] at h2
  obtain ⟨rfl, rfl⟩ := h2
  clear hb
  go_enter Tryd.func42, Tryd.ntmps42
  go_wp2_with (fail)
  with_reducible refine (spec_l01Ok.calls k w.heap.size a0 a1 l2 l3 false q2 q3 w _ HI.out (below_alloc (Below.refl _ _) _) H1.out).mono ?_
  rintro e w4 ⟨rfl, hi, hb4, hk4⟩
  have HB4 := Aside0.mk hb4
  clear HI hi hb4 hk4
  go_wp2
  go_ret2
  exact ⟨rfl, HB4.out⟩
end Go.Proofs.YtbkcllfgolmloaaDoor.X

-- Written by a program of this claim's author, out of the translation.
namespace Go.Proofs.YtbkcllfgolmloaaDoor.X
open Go.RowKit Go.Proofs.YtbkcllfgolmloaaDoorW.PrintWords Go.Proofs.YtbkcllfgolmloaaDoorW.PrintLast Go.Proofs.YtbkcllfgolmloaaDoorW.PrintMore
attribute [local go_sem] max2_int min2_int max_two min_two max_three min_three max_four min_four   -- for this text's walks alone
set_option linter.unusedVariables false
set_option linter.unusedSimpArgs false
def impl_within.f (a0 : Int) (a1 : Int) (a2 : Int) : Option (Bool) := if a1 ≤ a0 then (some (decide (a0 ≤ a2))) else (some false)
set_option maxHeartbeats 8000000 in
set_option maxRecDepth 100000 in
theorem impl_within.calls (a0 : Int) (a1 : Int) (a2 : Int) (r : Bool) (w : World) (h : impl_within.f a0 a1 a2 = some r) :
  Calls Tryd.prog 82 #[.int .i64 a0, .int .i64 a1, .int .i64 a2] w fun e w' => e = .returned (.bool r) ∧ Drawn0 w w' := by
 have H : (if a1 ≤ a0 then (some (decide (a0 ≤ a2))) else (some false)) = some r := h
 clear h
 by_cases c4 : a1 ≤ a0
 ·rw [if_pos c4] at H
  have c4b0 : decide (a1 ≤ a0) = true := decide_eq_true c4
  clear c4
  obtain rfl := Option.some.inj H
  go_enter Tryd.func82, Tryd.ntmps82
  go_wp2
  go_ret
  exact ⟨by first | rfl | (simp; done) | (simp [*]; done), by repeat (first | exact Drawn0.refl _ | apply Drawn0.step)⟩
 ·rw [if_neg c4] at H
  have c4b0 : decide (a1 ≤ a0) = false := decide_eq_false c4
  clear c4
  obtain rfl := Option.some.inj H
  go_enter Tryd.func82, Tryd.ntmps82
  go_wp2
  go_ret
  exact ⟨by first | rfl | (simp; done) | (simp [*]; done), by repeat (first | exact Drawn0.refl _ | apply Drawn0.step)⟩
end Go.Proofs.YtbkcllfgolmloaaDoor.X

-- Written by a program of this claim's author, out of the translation.
namespace Go.Proofs.YtbkcllfgolmloaaDoor.X
open Go.RowKit Go.Proofs.YtbkcllfgolmloaaDoorW.PrintWords Go.Proofs.YtbkcllfgolmloaaDoorW.PrintLast Go.Proofs.YtbkcllfgolmloaaDoorW.PrintMore
attribute [local go_sem] max2_int min2_int max_two min_two max_three min_three max_four min_four   -- for this text's walks alone
set_option linter.unusedVariables false
set_option linter.unusedSimpArgs false
def impl_areTapes.f (a0 : Int) : Option (Bool) := (impl_within.f a0 1 3).bind fun t165 => (some t165)
set_option maxHeartbeats 8000000 in
set_option maxRecDepth 100000 in
theorem impl_areTapes.calls (a0 : Int) (r : Bool) (w : World) (h : impl_areTapes.f a0 = some r) :
  Calls Tryd.prog 68 #[.int .i64 a0] w fun e w' => e = .returned (.bool r) ∧ Drawn0 w w' := by
 have H : ((impl_within.f a0 1 3).bind fun t165 => (some t165)) = some r := h
 clear h
 replace H := Option.bind_eq_some_iff.mp H
 obtain ⟨t165, A20, H⟩ := H
 replace H : (some t165) = some r := H
 have A2 := Aside0.mk A20
 clear A20
 obtain rfl := Option.some.inj H
 go_enter Tryd.func68, Tryd.ntmps68
 go_wp2_with (first | ((with_reducible refine gate_callee (f := 82) rfl ?_); refine goesL_ (some 4) rfl rfl Tryd.func82 (by kernel_rfl) rfl #[.int .i64 a0, .int .i64 1, .int .i64 3] rfl (by (try simp only [List.map_toArray, List.map_cons, List.map_nil]); first | done | rfl | (simp only [List.length_drop, List.length_take]; rfl)) ?_; (with_reducible refine (impl_within.calls a0 1 3 t165 _ A2.out).mono ?_); rintro e w' ⟨rfl, ⟨nd, rfl⟩⟩; refine ⟨_, rfl, ?_⟩))
 go_ret
 exact ⟨by first | rfl | (simp; done) | (simp [*]; done), by repeat (first | exact Drawn0.refl _ | apply Drawn0.step)⟩
end Go.Proofs.YtbkcllfgolmloaaDoor.X

