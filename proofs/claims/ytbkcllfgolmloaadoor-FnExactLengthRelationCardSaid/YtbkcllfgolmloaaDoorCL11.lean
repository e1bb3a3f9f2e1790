import Derived.Test.YtbkcllfgolmloaaDoorCL2
import Derived.Test.YtbkcllfgolmloaaDoorCL7
import Derived.Test.YtbkcllfgolmloaaDoorCL3
import Derived.Test.YtbkcllfgolmloaaDoorCL10
import Derived.Carry
import Derived.Outline
import Derived.Test.YtbkcllfgolmloaaDoorRows
import Derived.Test.YtbkcllfgolmloaaDoorCards
import Derived.Test.YtbkcllfgolmloaaDoorTie
import Derived.WalkKit
import Derived.ProofKit
import Derived.OpenShut
import Derived.ShutString
import Derived.ChangeOld
import Derived.Below
import Derived.SizedLaws
import Derived.ChangeVars
import Derived.JoinedOf
import Derived.JoinedAt
import Derived.LaidLaws
import Derived.SevenTiedAt
-- Written by a program of this claim's author, out of the translation.
namespace Go.Proofs.YtbkcllfgolmloaaDoor.X
open Go.RowKit Go.Proofs.YtbkcllfgolmloaaDoorW.PrintWords Go.Proofs.YtbkcllfgolmloaaDoorW.PrintLast Go.Proofs.YtbkcllfgolmloaaDoorW.PrintMore
attribute [local go_sem] max2_int min2_int max_two min_two max_three min_three max_four min_four   -- for this text's walks alone
set_option linter.unusedVariables false
set_option linter.unusedSimpArgs false
mutual
def spec_OrderRelation.l0 : Nat → List (List Int) → Int → Option (Int × Int × List Bool × (List (List Int)))
 | 0, _, _ => none
 | k + 1, x1, x2 => if x2 < 3 then ((some (([(([x2, 2, 3] : List Int)), (([x2, 5, 3] : List Int))] : List (List Int)) : List (List Int))).bind fun y646 => (if x1.length + y646.length < 5864062014805 then (spec_OrderRelation.l1 k (x1 ++ y646) x2 0) else (none))) else ((spec_l02Known.f k (([false, true, false, true] : List Bool)) x1).bind fun bt632 => (some (bt632.1, bt632.2.1, bt632.2.2.1, bt632.2.2.2)))
def spec_OrderRelation.l1 : Nat → List (List Int) → Int → Int → Option (Int × Int × List Bool × (List (List Int)))
 | 0, _, _, _ => none
 | k + 1, x1, x2, x3 => if x3 < 4 then (if x2 > 0 then ((some (([0, 1, 3, 4] : List Int) : List Int)).bind fun y652 => (if 0 ≤ x3 then (if x3 < (y652.length : Int) then (if x1.length < 5864062014805 then (spec_OrderRelation.l1 k (x1 ++ [(([x2, rd y652 x3, x2] : List Int))]) x2 (wrap64 (x3 + 1))) else (none)) else (none)) else (none))) else (spec_OrderRelation.l0 k x1 (wrap64 (x2 + 1)))) else (spec_OrderRelation.l0 k x1 (wrap64 (x2 + 1)))
end
def spec_OrderRelation.f (k : Nat)  : Option (Int × Int × List Bool × (List (List Int))) := spec_OrderRelation.l0 k (([(([0, 0, 0] : List Int)), (([0, 4, 0] : List Int)), (([0, 3, 1] : List Int)), (([0, 1, 2] : List Int)), (([3, 2, 3] : List Int)), (([3, 5, 3] : List Int))] : List (List Int))) 0
set_option maxHeartbeats 8000000 in
set_option maxRecDepth 100000 in
theorem spec_OrderRelation.calls (k : Nat)  (r1 : Int) (r2 : Int) (r3 : List Bool) (r4 : List (List Int)) (w : World) (h : spec_OrderRelation.f k  = some (r1, r2, r3, r4)) :
  Calls Tryd.prog 38 #[] w fun e w' => ∃ v2_ v3_ : Value, e = .returned (.agg #[.int .i64 r1, .int .i64 r2, v2_, v3_]) ∧ Kd.R Kd.bool 4 w' w.heap.size (fun k_ => (w.heap.size ≤ k_)) v2_ r3 ∧ Kd.N (Kd.slice 2 (Kd.int .i64)) 55 w' w.heap.size (fun k_ => (w.heap.size ≤ k_) ∧ some k_ ≠ (v2_ : Value).ownBlock) v3_ r4 ∧ Below w.heap.size w w' := by
 have hu28 := Tryd.underlying28
 have HB := Aside0.mk (Below.refl w.heap.size w)
 have H : (spec_OrderRelation.l0 k (([(([0, 0, 0] : List Int)), (([0, 4, 0] : List Int)), (([0, 3, 1] : List Int)), (([0, 1, 2] : List Int)), (([3, 2, 3] : List Int)), (([3, 5, 3] : List Int))] : List (List Int))) 0) = some (r1, r2, r3, r4) := h
 clear h
 obtain ⟨y608, hy608⟩ : ∃ y_ : List Int, y_ = (([0, 0, 0] : List Int)) := ⟨_, rfl⟩
 replace H : (spec_OrderRelation.l0 k (([y608, (([0, 4, 0] : List Int)), (([0, 3, 1] : List Int)), (([0, 1, 2] : List Int)), (([3, 2, 3] : List Int)), (([3, 5, 3] : List Int))] : List (List Int))) 0) = some (r1, r2, r3, r4) := by first | (rw [hy608]; with_reducible exact H) | (have H2_ := (Option.bind_some _ _).symm.trans H; rw [hy608]; with_reducible exact H2_) | (have H2_ := (Option.bind_some _ _).symm.trans H; with_reducible exact H2_) | with_reducible exact H | (rw [hy608]; exact H) | exact H
 have Ny608 := Aside0.mk hy608
 clear hy608
 obtain ⟨y611, hy611⟩ : ∃ y_ : List Int, y_ = (([0, 4, 0] : List Int)) := ⟨_, rfl⟩
 replace H : (spec_OrderRelation.l0 k (([y608, y611, (([0, 3, 1] : List Int)), (([0, 1, 2] : List Int)), (([3, 2, 3] : List Int)), (([3, 5, 3] : List Int))] : List (List Int))) 0) = some (r1, r2, r3, r4) := by first | (rw [hy611]; with_reducible exact H) | (have H2_ := (Option.bind_some _ _).symm.trans H; rw [hy611]; with_reducible exact H2_) | (have H2_ := (Option.bind_some _ _).symm.trans H; with_reducible exact H2_) | with_reducible exact H | (rw [hy611]; exact H) | exact H
 have Ny611 := Aside0.mk hy611
 clear hy611
 obtain ⟨y614, hy614⟩ : ∃ y_ : List Int, y_ = (([0, 3, 1] : List Int)) := ⟨_, rfl⟩
 replace H : (spec_OrderRelation.l0 k (([y608, y611, y614, (([0, 1, 2] : List Int)), (([3, 2, 3] : List Int)), (([3, 5, 3] : List Int))] : List (List Int))) 0) = some (r1, r2, r3, r4) := by first | (rw [hy614]; with_reducible exact H) | (have H2_ := (Option.bind_some _ _).symm.trans H; rw [hy614]; with_reducible exact H2_) | (have H2_ := (Option.bind_some _ _).symm.trans H; with_reducible exact H2_) | with_reducible exact H | (rw [hy614]; exact H) | exact H
 have Ny614 := Aside0.mk hy614
 clear hy614
 obtain ⟨y617, hy617⟩ : ∃ y_ : List Int, y_ = (([0, 1, 2] : List Int)) := ⟨_, rfl⟩
 replace H : (spec_OrderRelation.l0 k (([y608, y611, y614, y617, (([3, 2, 3] : List Int)), (([3, 5, 3] : List Int))] : List (List Int))) 0) = some (r1, r2, r3, r4) := by first | (rw [hy617]; with_reducible exact H) | (have H2_ := (Option.bind_some _ _).symm.trans H; rw [hy617]; with_reducible exact H2_) | (have H2_ := (Option.bind_some _ _).symm.trans H; with_reducible exact H2_) | with_reducible exact H | (rw [hy617]; exact H) | exact H
 have Ny617 := Aside0.mk hy617
 clear hy617
 obtain ⟨y620, hy620⟩ : ∃ y_ : List Int, y_ = (([3, 2, 3] : List Int)) := ⟨_, rfl⟩
 replace H : (spec_OrderRelation.l0 k (([y608, y611, y614, y617, y620, (([3, 5, 3] : List Int))] : List (List Int))) 0) = some (r1, r2, r3, r4) := by first | (rw [hy620]; with_reducible exact H) | (have H2_ := (Option.bind_some _ _).symm.trans H; rw [hy620]; with_reducible exact H2_) | (have H2_ := (Option.bind_some _ _).symm.trans H; with_reducible exact H2_) | with_reducible exact H | (rw [hy620]; exact H) | exact H
 have Ny620 := Aside0.mk hy620
 clear hy620
 obtain ⟨y623, hy623⟩ : ∃ y_ : List Int, y_ = (([3, 5, 3] : List Int)) := ⟨_, rfl⟩
 replace H : (spec_OrderRelation.l0 k (([y608, y611, y614, y617, y620, y623] : List (List Int))) 0) = some (r1, r2, r3, r4) := by first | (rw [hy623]; with_reducible exact H) | (have H2_ := (Option.bind_some _ _).symm.trans H; rw [hy623]; with_reducible exact H2_) | (have H2_ := (Option.bind_some _ _).symm.trans H; with_reducible exact H2_) | with_reducible exact H | (rw [hy623]; exact H) | exact H
 have Ny623 := Aside0.mk hy623
 clear hy623
 obtain ⟨y626, hy626⟩ : ∃ y_ : List (List Int), y_ = (([y608, y611, y614, y617, y620, y623] : List (List Int))) := ⟨_, rfl⟩
 replace H : (spec_OrderRelation.l0 k y626 0) = some (r1, r2, r3, r4) := by first | (rw [hy626]; with_reducible exact H) | (have H2_ := (Option.bind_some _ _).symm.trans H; rw [hy626]; with_reducible exact H2_) | (have H2_ := (Option.bind_some _ _).symm.trans H; with_reducible exact H2_) | with_reducible exact H | (rw [hy626]; exact H) | exact H
 have Ny626 := Aside0.mk hy626
 clear hy626
 have H' := Aside0.mk H
 clear H
 go_enter Tryd.func38, Tryd.ntmps38
 go_wp2_with (first | ((with_reducible refine gate_dst (N := 0) rfl ?_); refine box_event ?hg (N := 0) ?hd (cs := #[.int .i64 0, .int .i64 0, .slice none 0 0, .slice none 0 0]) (t := 28) ?hr ?_; (case hd => rfl); (case hg => rfl); (case hr => first | (go_simp; done) | (go_simp; rfl)); intro gb607 hg w1 hbox hb; have n0_ := Aside0.mk (below_step (by repeat (first | (with_reducible first | exact HB.out | apply below_alloc | apply pw_below_drewN | apply below_drew1) | exact HB.out)) hb); have n1_ := Aside0.mk (hbox); have n2_ := Aside0.mk ((by rw [hg]; exact (below_size (by repeat (first | (with_reducible first | exact HB.out | apply below_alloc | apply pw_below_drewN | apply below_drew1) | exact HB.out))) : w.heap.size ≤ gb607)); have n3_ := Aside0.mk ((by rw [hg]; exact (below_size (by repeat (first | (with_reducible first | exact HB.out | apply below_alloc | apply pw_below_drewN | apply below_drew1) | exact HB.out))) : w.heap.size ≤ gb607)); clear HB; have HB := n0_; have BK607 := n1_; have GW607 := n2_; have GE607 := n3_; clear n0_ n1_ n2_ n3_; clear hb hbox hg) | ((with_reducible refine gate_dst (N := 4) rfl ?_); refine Kd.R_lit (Kd.int .i64) _ 2 ?hg (N := 4) ?hd (xs := ([0, 0, 0] : List Int)) (inner := [.int .i64 0, .int .i64 0, .int .i64 0]) (ok := fun _ => True) (okp := fun _ => True) ?hr ?hp (fun _ hk => hk) trivial (Below.refl _ _) (Nat.le_refl _) (by simp) ?_; (case hd => rfl); (case hg => rfl); (case hr => first | (go_simp; done) | (go_simp; rfl)); (case hp => exact (Reps.one (show Kd.M (Kd.int .i64) _ _ _ 0 [.int .i64 0] from rfl) (Reps.one (show Kd.M (Kd.int .i64) _ _ _ 0 [.int .i64 0] from rfl) (Reps.one (show Kd.M (Kd.int .i64) _ _ _ 0 [.int .i64 0] from rfl) (Reps.none _ _))))); intro v609 w2 ho3 hb hg_ hnew_; clear hg_ hnew_; (first | rw [← Ny608.out] at ho3 | (simp only [Int.reduceToNat] at ho3; rw [← Ny608.out] at ho3)); have n0_ := Aside0.mk (Kd.R_lower (Kd.R_newM (M := fun k_ => (w.heap.size ≤ k_)) ho3 (below_size (by repeat (first | (with_reducible first | exact HB.out | apply below_alloc | apply pw_below_drewN | apply below_drew1 | refine below_set ?_ GE607.out) | exact HB.out))) (fun k_ h_ => h_)) (below_size (by repeat (first | (with_reducible first | exact HB.out | apply below_alloc | apply pw_below_drewN | apply below_drew1 | refine below_set ?_ GE607.out) | exact HB.out)))); have n1_ := Aside0.mk (blk_below (g := gb607) (o := .cells #[.int .i64 0, .int .i64 0, .slice none 0 0, .slice none 0 0] 28 (0, 0)) (by (with_reducible repeat (first | refine blk_drewN ?_ _ | refine blk_drew ?_ | refine blk_alloc ?_ _)); exact BK607.out) hb); have n2_ := Aside0.mk (below_step (by repeat (first | (with_reducible first | exact HB.out | apply below_alloc | apply pw_below_drewN | apply below_drew1 | refine below_set ?_ GE607.out) | exact HB.out)) hb); clear BK607; clear HB; have HO610 := n0_; have BK607 := n1_; have HB := n2_; clear n0_ n1_ n2_; clear hb ho3) | ((with_reducible refine gate_dst (N := 5) rfl ?_); refine Kd.R_lit (Kd.int .i64) _ 2 ?hg (N := 5) ?hd (xs := ([0, 4, 0] : List Int)) (inner := [.int .i64 0, .int .i64 4, .int .i64 0]) (ok := fun _ => True) (okp := fun _ => True) ?hr ?hp (fun _ hk => hk) trivial (Below.refl _ _) (Nat.le_refl _) (by simp) ?_; (case hd => rfl); (case hg => rfl); (case hr => first | (go_simp; done) | (go_simp; rfl)); (case hp => exact (Reps.one (show Kd.M (Kd.int .i64) _ _ _ 0 [.int .i64 0] from rfl) (Reps.one (show Kd.M (Kd.int .i64) _ _ _ 4 [.int .i64 4] from rfl) (Reps.one (show Kd.M (Kd.int .i64) _ _ _ 0 [.int .i64 0] from rfl) (Reps.none _ _))))); intro v612 w4 ho5 hb hg_ hnew_; clear hg_ hnew_; (first | rw [← Ny611.out] at ho5 | (simp only [Int.reduceToNat] at ho5; rw [← Ny611.out] at ho5)); have n0_ := Aside0.mk (Kd.R_elder' (by (with_reducible repeat (first | apply Kd.R_alloc | apply Kd.R_drewN | apply Kd.R_drew)); exact HO610.out) (Kd.R_base ho5) hb); have n1_ := Aside0.mk (Kd.R_lower (Kd.R_new' (Kd.R_newM (M := fun k_ => (w.heap.size ≤ k_)) ho5 (below_size (by repeat (first | (with_reducible first | exact HB.out | apply below_alloc | apply pw_below_drewN | apply below_drew1 | refine below_set ?_ GE607.out) | exact HB.out))) (fun k_ h_ => h_)) (Kd.R_lt (by (with_reducible repeat (first | apply Kd.R_alloc | apply Kd.R_drewN | apply Kd.R_drew)); exact HO610.out))) (below_size (by repeat (first | (with_reducible first | exact HB.out | apply below_alloc | apply pw_below_drewN | apply below_drew1 | refine below_set ?_ GE607.out) | exact HB.out)))); have n2_ := Aside0.mk (blk_below (g := gb607) (o := .cells #[.int .i64 0, .int .i64 0, .slice none 0 0, .slice none 0 0] 28 (0, 0)) (by (with_reducible repeat (first | refine blk_drewN ?_ _ | refine blk_drew ?_ | refine blk_alloc ?_ _)); exact BK607.out) hb); have n3_ := Aside0.mk (below_step (by repeat (first | (with_reducible first | exact HB.out | apply below_alloc | apply pw_below_drewN | apply below_drew1 | refine below_set ?_ GE607.out) | exact HB.out)) hb); clear HO610; clear BK607; clear HB; have HO610 := n0_; have HO613 := n1_; have BK607 := n2_; have HB := n3_; clear n0_ n1_ n2_ n3_; clear hb ho5) | ((with_reducible refine gate_dst (N := 6) rfl ?_); refine Kd.R_lit (Kd.int .i64) _ 2 ?hg (N := 6) ?hd (xs := ([0, 3, 1] : List Int)) (inner := [.int .i64 0, .int .i64 3, .int .i64 1]) (ok := fun _ => True) (okp := fun _ => True) ?hr ?hp (fun _ hk => hk) trivial (Below.refl _ _) (Nat.le_refl _) (by simp) ?_; (case hd => rfl); (case hg => rfl); (case hr => first | (go_simp; done) | (go_simp; rfl)); (case hp => exact (Reps.one (show Kd.M (Kd.int .i64) _ _ _ 0 [.int .i64 0] from rfl) (Reps.one (show Kd.M (Kd.int .i64) _ _ _ 3 [.int .i64 3] from rfl) (Reps.one (show Kd.M (Kd.int .i64) _ _ _ 1 [.int .i64 1] from rfl) (Reps.none _ _))))); intro v615 w6 ho7 hb hg_ hnew_; clear hg_ hnew_; (first | rw [← Ny614.out] at ho7 | (simp only [Int.reduceToNat] at ho7; rw [← Ny614.out] at ho7)); have n0_ := Aside0.mk (Kd.R_elder' (by (with_reducible repeat (first | apply Kd.R_alloc | apply Kd.R_drewN | apply Kd.R_drew)); exact HO610.out) (Kd.R_base ho7) hb); have n1_ := Aside0.mk (Kd.R_elder' (by (with_reducible repeat (first | apply Kd.R_alloc | apply Kd.R_drewN | apply Kd.R_drew)); exact HO613.out) (Kd.R_base ho7) hb); have n2_ := Aside0.mk (Kd.R_lower (Kd.R_new' (Kd.R_new' (Kd.R_newM (M := fun k_ => (w.heap.size ≤ k_)) ho7 (below_size (by repeat (first | (with_reducible first | exact HB.out | apply below_alloc | apply pw_below_drewN | apply below_drew1 | refine below_set ?_ GE607.out) | exact HB.out))) (fun k_ h_ => h_)) (Kd.R_lt (by (with_reducible repeat (first | apply Kd.R_alloc | apply Kd.R_drewN | apply Kd.R_drew)); exact HO610.out))) (Kd.R_lt (by (with_reducible repeat (first | apply Kd.R_alloc | apply Kd.R_drewN | apply Kd.R_drew)); exact HO613.out))) (below_size (by repeat (first | (with_reducible first | exact HB.out | apply below_alloc | apply pw_below_drewN | apply below_drew1 | refine below_set ?_ GE607.out) | exact HB.out)))); have n3_ := Aside0.mk (blk_below (g := gb607) (o := .cells #[.int .i64 0, .int .i64 0, .slice none 0 0, .slice none 0 0] 28 (0, 0)) (by (with_reducible repeat (first | refine blk_drewN ?_ _ | refine blk_drew ?_ | refine blk_alloc ?_ _)); exact BK607.out) hb); have n4_ := Aside0.mk (below_step (by repeat (first | (with_reducible first | exact HB.out | apply below_alloc | apply pw_below_drewN | apply below_drew1 | refine below_set ?_ GE607.out) | exact HB.out)) hb); clear HO610; clear HO613; clear BK607; clear HB; have HO610 := n0_; have HO613 := n1_; have HO616 := n2_; have BK607 := n3_; have HB := n4_; clear n0_ n1_ n2_ n3_ n4_; clear hb ho7) | ((with_reducible refine gate_dst (N := 7) rfl ?_); refine Kd.R_lit (Kd.int .i64) _ 2 ?hg (N := 7) ?hd (xs := ([0, 1, 2] : List Int)) (inner := [.int .i64 0, .int .i64 1, .int .i64 2]) (ok := fun _ => True) (okp := fun _ => True) ?hr ?hp (fun _ hk => hk) trivial (Below.refl _ _) (Nat.le_refl _) (by simp) ?_; (case hd => rfl); (case hg => rfl); (case hr => first | (go_simp; done) | (go_simp; rfl)); (case hp => exact (Reps.one (show Kd.M (Kd.int .i64) _ _ _ 0 [.int .i64 0] from rfl) (Reps.one (show Kd.M (Kd.int .i64) _ _ _ 1 [.int .i64 1] from rfl) (Reps.one (show Kd.M (Kd.int .i64) _ _ _ 2 [.int .i64 2] from rfl) (Reps.none _ _))))); intro v618 w8 ho9 hb hg_ hnew_; clear hg_ hnew_; (first | rw [← Ny617.out] at ho9 | (simp only [Int.reduceToNat] at ho9; rw [← Ny617.out] at ho9)); have n0_ := Aside0.mk (Kd.R_elder' (by (with_reducible repeat (first | apply Kd.R_alloc | apply Kd.R_drewN | apply Kd.R_drew)); exact HO610.out) (Kd.R_base ho9) hb); have n1_ := Aside0.mk (Kd.R_elder' (by (with_reducible repeat (first | apply Kd.R_alloc | apply Kd.R_drewN | apply Kd.R_drew)); exact HO613.out) (Kd.R_base ho9) hb); have n2_ := Aside0.mk (Kd.R_elder' (by (with_reducible repeat (first | apply Kd.R_alloc | apply Kd.R_drewN | apply Kd.R_drew)); exact HO616.out) (Kd.R_base ho9) hb); have n3_ := Aside0.mk (Kd.R_lower (Kd.R_new' (Kd.R_new' (Kd.R_new' (Kd.R_newM (M := fun k_ => (w.heap.size ≤ k_)) ho9 (below_size (by repeat (first | (with_reducible first | exact HB.out | apply below_alloc | apply pw_below_drewN | apply below_drew1 | refine below_set ?_ GE607.out) | exact HB.out))) (fun k_ h_ => h_)) (Kd.R_lt (by (with_reducible repeat (first | apply Kd.R_alloc | apply Kd.R_drewN | apply Kd.R_drew)); exact HO610.out))) (Kd.R_lt (by (with_reducible repeat (first | apply Kd.R_alloc | apply Kd.R_drewN | apply Kd.R_drew)); exact HO613.out))) (Kd.R_lt (by (with_reducible repeat (first | apply Kd.R_alloc | apply Kd.R_drewN | apply Kd.R_drew)); exact HO616.out))) (below_size (by repeat (first | (with_reducible first | exact HB.out | apply below_alloc | apply pw_below_drewN | apply below_drew1 | refine below_set ?_ GE607.out) | exact HB.out)))); have n4_ := Aside0.mk (blk_below (g := gb607) (o := .cells #[.int .i64 0, .int .i64 0, .slice none 0 0, .slice none 0 0] 28 (0, 0)) (by (with_reducible repeat (first | refine blk_drewN ?_ _ | refine blk_drew ?_ | refine blk_alloc ?_ _)); exact BK607.out) hb); have n5_ := Aside0.mk (below_step (by repeat (first | (with_reducible first | exact HB.out | apply below_alloc | apply pw_below_drewN | apply below_drew1 | refine below_set ?_ GE607.out) | exact HB.out)) hb); clear HO610; clear HO613; clear HO616; clear BK607; clear HB; have HO610 := n0_; have HO613 := n1_; have HO616 := n2_; have HO619 := n3_; have BK607 := n4_; have HB := n5_; clear n0_ n1_ n2_ n3_ n4_ n5_; clear hb ho9) | ((with_reducible refine gate_dst (N := 8) rfl ?_); refine Kd.R_lit (Kd.int .i64) _ 2 ?hg (N := 8) ?hd (xs := ([3, 2, 3] : List Int)) (inner := [.int .i64 3, .int .i64 2, .int .i64 3]) (ok := fun _ => True) (okp := fun _ => True) ?hr ?hp (fun _ hk => hk) trivial (Below.refl _ _) (Nat.le_refl _) (by simp) ?_; (case hd => rfl); (case hg => rfl); (case hr => first | (go_simp; done) | (go_simp; rfl)); (case hp => exact (Reps.one (show Kd.M (Kd.int .i64) _ _ _ 3 [.int .i64 3] from rfl) (Reps.one (show Kd.M (Kd.int .i64) _ _ _ 2 [.int .i64 2] from rfl) (Reps.one (show Kd.M (Kd.int .i64) _ _ _ 3 [.int .i64 3] from rfl) (Reps.none _ _))))); intro v621 w10 ho11 hb hg_ hnew_; clear hg_ hnew_; (first | rw [← Ny620.out] at ho11 | (simp only [Int.reduceToNat] at ho11; rw [← Ny620.out] at ho11)); have n0_ := Aside0.mk (Kd.R_elder' (by (with_reducible repeat (first | apply Kd.R_alloc | apply Kd.R_drewN | apply Kd.R_drew)); exact HO610.out) (Kd.R_base ho11) hb); have n1_ := Aside0.mk (Kd.R_elder' (by (with_reducible repeat (first | apply Kd.R_alloc | apply Kd.R_drewN | apply Kd.R_drew)); exact HO613.out) (Kd.R_base ho11) hb); have n2_ := Aside0.mk (Kd.R_elder' (by (with_reducible repeat (first | apply Kd.R_alloc | apply Kd.R_drewN | apply Kd.R_drew)); exact HO616.out) (Kd.R_base ho11) hb); have n3_ := Aside0.mk (Kd.R_elder' (by (with_reducible repeat (first | apply Kd.R_alloc | apply Kd.R_drewN | apply Kd.R_drew)); exact HO619.out) (Kd.R_base ho11) hb); have n4_ := Aside0.mk (Kd.R_lower (Kd.R_new' (Kd.R_new' (Kd.R_new' (Kd.R_new' (Kd.R_newM (M := fun k_ => (w.heap.size ≤ k_)) ho11 (below_size (by repeat (first | (with_reducible first | exact HB.out | apply below_alloc | apply pw_below_drewN | apply below_drew1 | refine below_set ?_ GE607.out) | exact HB.out))) (fun k_ h_ => h_)) (Kd.R_lt (by (with_reducible repeat (first | apply Kd.R_alloc | apply Kd.R_drewN | apply Kd.R_drew)); exact HO610.out))) (Kd.R_lt (by (with_reducible repeat (first | apply Kd.R_alloc | apply Kd.R_drewN | apply Kd.R_drew)); exact HO613.out))) (Kd.R_lt (by (with_reducible repeat (first | apply Kd.R_alloc | apply Kd.R_drewN | apply Kd.R_drew)); exact HO616.out))) (Kd.R_lt (by (with_reducible repeat (first | apply Kd.R_alloc | apply Kd.R_drewN | apply Kd.R_drew)); exact HO619.out))) (below_size (by repeat (first | (with_reducible first | exact HB.out | apply below_alloc | apply pw_below_drewN | apply below_drew1 | refine below_set ?_ GE607.out) | exact HB.out)))); have n5_ := Aside0.mk (blk_below (g := gb607) (o := .cells #[.int .i64 0, .int .i64 0, .slice none 0 0, .slice none 0 0] 28 (0, 0)) (by (with_reducible repeat (first | refine blk_drewN ?_ _ | refine blk_drew ?_ | refine blk_alloc ?_ _)); exact BK607.out) hb); have n6_ := Aside0.mk (below_step (by repeat (first | (with_reducible first | exact HB.out | apply below_alloc | apply pw_below_drewN | apply below_drew1 | refine below_set ?_ GE607.out) | exact HB.out)) hb); clear HO610; clear HO613; clear HO616; clear HO619; clear BK607; clear HB; have HO610 := n0_; have HO613 := n1_; have HO616 := n2_; have HO619 := n3_; have HO622 := n4_; have BK607 := n5_; have HB := n6_; clear n0_ n1_ n2_ n3_ n4_ n5_ n6_; clear hb ho11) | ((with_reducible refine gate_dst (N := 9) rfl ?_); refine Kd.R_lit (Kd.int .i64) _ 2 ?hg (N := 9) ?hd (xs := ([3, 5, 3] : List Int)) (inner := [.int .i64 3, .int .i64 5, .int .i64 3]) (ok := fun _ => True) (okp := fun _ => True) ?hr ?hp (fun _ hk => hk) trivial (Below.refl _ _) (Nat.le_refl _) (by simp) ?_; (case hd => rfl); (case hg => rfl); (case hr => first | (go_simp; done) | (go_simp; rfl)); (case hp => exact (Reps.one (show Kd.M (Kd.int .i64) _ _ _ 3 [.int .i64 3] from rfl) (Reps.one (show Kd.M (Kd.int .i64) _ _ _ 5 [.int .i64 5] from rfl) (Reps.one (show Kd.M (Kd.int .i64) _ _ _ 3 [.int .i64 3] from rfl) (Reps.none _ _))))); intro v624 w12 ho13 hb hg_ hnew_; clear hg_ hnew_; (first | rw [← Ny623.out] at ho13 | (simp only [Int.reduceToNat] at ho13; rw [← Ny623.out] at ho13)); have n0_ := Aside0.mk (Kd.R_elder' (by (with_reducible repeat (first | apply Kd.R_alloc | apply Kd.R_drewN | apply Kd.R_drew)); exact HO610.out) (Kd.R_base ho13) hb); have n1_ := Aside0.mk (Kd.R_elder' (by (with_reducible repeat (first | apply Kd.R_alloc | apply Kd.R_drewN | apply Kd.R_drew)); exact HO613.out) (Kd.R_base ho13) hb); have n2_ := Aside0.mk (Kd.R_elder' (by (with_reducible repeat (first | apply Kd.R_alloc | apply Kd.R_drewN | apply Kd.R_drew)); exact HO616.out) (Kd.R_base ho13) hb); have n3_ := Aside0.mk (Kd.R_elder' (by (with_reducible repeat (first | apply Kd.R_alloc | apply Kd.R_drewN | apply Kd.R_drew)); exact HO619.out) (Kd.R_base ho13) hb); have n4_ := Aside0.mk (Kd.R_elder' (by (with_reducible repeat (first | apply Kd.R_alloc | apply Kd.R_drewN | apply Kd.R_drew)); exact HO622.out) (Kd.R_base ho13) hb); have n5_ := Aside0.mk (Kd.R_lower (Kd.R_new' (Kd.R_new' (Kd.R_new' (Kd.R_new' (Kd.R_new' (Kd.R_newM (M := fun k_ => (w.heap.size ≤ k_)) ho13 (below_size (by repeat (first | (with_reducible first | exact HB.out | apply below_alloc | apply pw_below_drewN | apply below_drew1 | refine below_set ?_ GE607.out) | exact HB.out))) (fun k_ h_ => h_)) (Kd.R_lt (by (with_reducible repeat (first | apply Kd.R_alloc | apply Kd.R_drewN | apply Kd.R_drew)); exact HO610.out))) (Kd.R_lt (by (with_reducible repeat (first | apply Kd.R_alloc | apply Kd.R_drewN | apply Kd.R_drew)); exact HO613.out))) (Kd.R_lt (by (with_reducible repeat (first | apply Kd.R_alloc | apply Kd.R_drewN | apply Kd.R_drew)); exact HO616.out))) (Kd.R_lt (by (with_reducible repeat (first | apply Kd.R_alloc | apply Kd.R_drewN | apply Kd.R_drew)); exact HO619.out))) (Kd.R_lt (by (with_reducible repeat (first | apply Kd.R_alloc | apply Kd.R_drewN | apply Kd.R_drew)); exact HO622.out))) (below_size (by repeat (first | (with_reducible first | exact HB.out | apply below_alloc | apply pw_below_drewN | apply below_drew1 | refine below_set ?_ GE607.out) | exact HB.out)))); have n6_ := Aside0.mk (blk_below (g := gb607) (o := .cells #[.int .i64 0, .int .i64 0, .slice none 0 0, .slice none 0 0] 28 (0, 0)) (by (with_reducible repeat (first | refine blk_drewN ?_ _ | refine blk_drew ?_ | refine blk_alloc ?_ _)); exact BK607.out) hb); have n7_ := Aside0.mk (below_step (by repeat (first | (with_reducible first | exact HB.out | apply below_alloc | apply pw_below_drewN | apply below_drew1 | refine below_set ?_ GE607.out) | exact HB.out)) hb); clear HO610; clear HO613; clear HO616; clear HO619; clear HO622; clear BK607; clear HB; have HO610 := n0_; have HO613 := n1_; have HO616 := n2_; have HO619 := n3_; have HO622 := n4_; have HO625 := n5_; have BK607 := n6_; have HB := n7_; clear n0_ n1_ n2_ n3_ n4_ n5_ n6_ n7_; clear hb ho13; obtain ⟨Ao14, co14, eo14⟩ := Kd.R_slice HO610.out; subst eo14; obtain ⟨Ao15, co15, eo15⟩ := Kd.R_slice HO613.out; subst eo15; obtain ⟨Ao16, co16, eo16⟩ := Kd.R_slice HO616.out; subst eo16; obtain ⟨Ao17, co17, eo17⟩ := Kd.R_slice HO619.out; subst eo17; obtain ⟨Ao18, co18, eo18⟩ := Kd.R_slice HO622.out; subst eo18; obtain ⟨Ao19, co19, eo19⟩ := Kd.R_slice HO625.out; subst eo19) | ((with_reducible refine gate_dst (N := 10) rfl ?_); refine Kd.N_lit (Kd.slice 2 (Kd.int .i64)) _ 55 ?hg (N' := 10) ?hd (xs := ([y608, y611, y614, y617, y620, y623] : List (List Int))) (inner := [.slice Ao14 y608.length co14, .slice Ao15 y611.length co15, .slice Ao16 y614.length co16, .slice Ao17 y617.length co17, .slice Ao18 y620.length co18, .slice Ao19 y623.length co19]) (ok := (fun k_ => (w.heap.size ≤ k_) ∧ k_ ≠ gb607)) (okp := (fun k_ => (w.heap.size ≤ k_) ∧ k_ ≠ gb607)) ?hr ?hp (fun _ hk => hk) ((show ∀ k_, w12.heap.size ≤ k_ → (fun k_ => (w.heap.size ≤ k_) ∧ k_ ≠ gb607) k_ from fun k_ hk => ⟨(Nat.le_trans (below_size (by repeat (first | (with_reducible first | exact HB.out | apply below_alloc | apply pw_below_drewN | apply below_drew1 | refine below_set ?_ GE607.out) | exact HB.out))) hk), Kd.freshB (g := gb607) (o := .cells #[.int .i64 0, .int .i64 0, .slice none 0 0, .slice none 0 0] 28 (0, 0)) (by (with_reducible repeat (first | refine blk_drewN ?_ _ | refine blk_drew ?_ | refine blk_alloc ?_ _)); exact BK607.out) k_ hk⟩) _ (Nat.le_refl _)) (Below.refl _ _) (Nat.le_refl _) (by simp) ?_; (case hd => rfl); (case hg => rfl); (case hr => first | (go_simp; done) | (go_simp; rfl)); (case hp => exact (Reps.one (show Kd.FK (Kd.slice 2 (Kd.int .i64)) _ _ y608 [.slice Ao14 y608.length co14] from (Kd.FK_slice_mk (Kd.R_reads' (Kd.R_mono (ok' := (fun k_ => (w.heap.size ≤ k_) ∧ k_ ≠ gb607)) (Kd.R_types (HO610.out) BK607.out (by decide)) (fun k_ hk => ⟨hk.1.1.1.1.1.1.1, hk.2⟩))).2.1 (Kd.R_F (Kd.R_mono (ok' := (fun k_ => (w.heap.size ≤ k_) ∧ k_ ≠ gb607)) (Kd.R_types (HO610.out) BK607.out (by decide)) (fun k_ hk => ⟨hk.1.1.1.1.1.1.1, hk.2⟩))))) (Reps.one (show Kd.FK (Kd.slice 2 (Kd.int .i64)) _ _ y611 [.slice Ao15 y611.length co15] from (Kd.FK_slice_mk (Kd.R_reads' (Kd.R_mono (ok' := (fun k_ => (w.heap.size ≤ k_) ∧ k_ ≠ gb607)) (Kd.R_types (HO613.out) BK607.out (by decide)) (fun k_ hk => ⟨hk.1.1.1.1.1.1.1, hk.2⟩))).2.1 (Kd.R_F (Kd.R_mono (ok' := (fun k_ => (w.heap.size ≤ k_) ∧ k_ ≠ gb607)) (Kd.R_types (HO613.out) BK607.out (by decide)) (fun k_ hk => ⟨hk.1.1.1.1.1.1.1, hk.2⟩))))) (Reps.one (show Kd.FK (Kd.slice 2 (Kd.int .i64)) _ _ y614 [.slice Ao16 y614.length co16] from (Kd.FK_slice_mk (Kd.R_reads' (Kd.R_mono (ok' := (fun k_ => (w.heap.size ≤ k_) ∧ k_ ≠ gb607)) (Kd.R_types (HO616.out) BK607.out (by decide)) (fun k_ hk => ⟨hk.1.1.1.1.1.1.1, hk.2⟩))).2.1 (Kd.R_F (Kd.R_mono (ok' := (fun k_ => (w.heap.size ≤ k_) ∧ k_ ≠ gb607)) (Kd.R_types (HO616.out) BK607.out (by decide)) (fun k_ hk => ⟨hk.1.1.1.1.1.1.1, hk.2⟩))))) (Reps.one (show Kd.FK (Kd.slice 2 (Kd.int .i64)) _ _ y617 [.slice Ao17 y617.length co17] from (Kd.FK_slice_mk (Kd.R_reads' (Kd.R_mono (ok' := (fun k_ => (w.heap.size ≤ k_) ∧ k_ ≠ gb607)) (Kd.R_types (HO619.out) BK607.out (by decide)) (fun k_ hk => ⟨hk.1.1.1.1.1.1.1, hk.2⟩))).2.1 (Kd.R_F (Kd.R_mono (ok' := (fun k_ => (w.heap.size ≤ k_) ∧ k_ ≠ gb607)) (Kd.R_types (HO619.out) BK607.out (by decide)) (fun k_ hk => ⟨hk.1.1.1.1.1.1.1, hk.2⟩))))) (Reps.one (show Kd.FK (Kd.slice 2 (Kd.int .i64)) _ _ y620 [.slice Ao18 y620.length co18] from (Kd.FK_slice_mk (Kd.R_reads' (Kd.R_mono (ok' := (fun k_ => (w.heap.size ≤ k_) ∧ k_ ≠ gb607)) (Kd.R_types (HO622.out) BK607.out (by decide)) (fun k_ hk => ⟨hk.1.1.1.1.1.1.1, hk.2⟩))).2.1 (Kd.R_F (Kd.R_mono (ok' := (fun k_ => (w.heap.size ≤ k_) ∧ k_ ≠ gb607)) (Kd.R_types (HO622.out) BK607.out (by decide)) (fun k_ hk => ⟨hk.1.1.1.1.1.1.1, hk.2⟩))))) (Reps.one (show Kd.FK (Kd.slice 2 (Kd.int .i64)) _ _ y623 [.slice Ao19 y623.length co19] from (Kd.FK_slice_mk (Kd.R_reads' (Kd.R_mono (ok' := (fun k_ => (w.heap.size ≤ k_) ∧ k_ ≠ gb607)) (Kd.R_types (HO625.out) BK607.out (by decide)) (fun k_ hk => ⟨hk.1.1.1.1.1.1.1, hk.2⟩))).2.1 (Kd.R_F (Kd.R_mono (ok' := (fun k_ => (w.heap.size ≤ k_) ∧ k_ ≠ gb607)) (Kd.R_types (HO625.out) BK607.out (by decide)) (fun k_ hk => ⟨hk.1.1.1.1.1.1.1, hk.2⟩))))) (Reps.none _ _)))))))); intro v627 w20 ho21 hb hg_ hnew_; clear hg_ hnew_; (first | rw [← Ny626.out] at ho21 | (simp only [Int.reduceToNat] at ho21; rw [← Ny626.out] at ho21)); have n0_ := Aside0.mk (Kd.N_lower ho21 (below_size (by repeat (first | (with_reducible first | exact HB.out | apply below_alloc | apply pw_below_drewN | apply below_drew1 | refine below_set ?_ GE607.out) | exact HB.out)))); have n1_ := Aside0.mk (blk_below (g := gb607) (o := .cells #[.int .i64 0, .int .i64 0, .slice none 0 0, .slice none 0 0] 28 (0, 0)) (by (with_reducible repeat (first | refine blk_drewN ?_ _ | refine blk_drew ?_ | refine blk_alloc ?_ _)); exact BK607.out) hb); have n2_ := Aside0.mk (below_step (by repeat (first | (with_reducible first | exact HB.out | apply below_alloc | apply pw_below_drewN | apply below_drew1 | refine below_set ?_ GE607.out) | exact HB.out)) hb); clear BK607; clear HB; clear HO610; clear HO613; clear HO616; clear HO619; clear HO622; clear HO625; have HO628 := n0_; have BK607 := n1_; have HB := n2_; clear n0_ n1_ n2_; clear hb ho21))
 go_loopg [1, 2] k (fun kq v1 v2 w' => ∃ (x1_1 : List (List Int)) (x2_1 : Int), v2 = .int .i64 x2_1 ∧ Aside0 (spec_OrderRelation.l0 kq x1_1 x2_1 = some (r1, r2, r3, r4)) ∧ Aside0 (kq ≤ k) ∧ Aside0 (Kd.N (Kd.slice 2 (Kd.int .i64)) 55 w' w.heap.size (fun k_ => (w.heap.size ≤ k_) ∧ k_ ≠ gb607) v1 x1_1) ∧ Aside0 (w'.heap[gb607]? = some (.cells #[.int .i64 0, .int .i64 0, (.slice none 0 0), (.slice none 0 0)] 28 (0, 0))) ∧ Aside0 (Below w.heap.size w w'))
 case atStart => exact ⟨(y626), (0), (by first | rfl | (simp; done) | (simp [*]; done)), H', ⟨Nat.le_refl _⟩, ⟨by (with_reducible repeat (first | apply Kd.N_alloc | apply Kd.N_drewN | apply Kd.N_drew)); exact HO628.out⟩, ⟨by (with_reducible repeat (first | refine blk_drewN ?_ _ | refine blk_drew ?_ | refine blk_alloc ?_ _)); exact BK607.out⟩, ⟨by repeat (first | (with_reducible first | exact HB.out | apply below_alloc | apply pw_below_drewN | apply below_drew1 | refine below_set ?_ GE607.out) | exact HB.out)⟩⟩
 case round =>
  clear H'
  try clear p2
  try clear c3
  obtain ⟨x1_1, x2_1, rfl, HA, HK1, HO_1, BK607, HB⟩ := hrel
  cases gk with
  | zero => exact absurd HA.out (by simp [spec_OrderRelation.l0])
  | succ k1 =>
   have H := HA.out
   clear HA
   simp only [spec_OrderRelation.l0] at H
   by_cases c22 : x2_1 < 3
   ·rw [if_pos c22] at H
    have c22b0 : decide (x2_1 < 3) = true := decide_eq_true c22
    clear c22
    obtain ⟨y640, hy640⟩ : ∃ y_ : List Int, y_ = (([x2_1, 2, 3] : List Int)) := ⟨_, rfl⟩
    replace H : ((some (([y640, (([x2_1, 5, 3] : List Int))] : List (List Int)) : List (List Int))).bind fun y646 => (if x1_1.length + y646.length < 5864062014805 then (spec_OrderRelation.l1 k1 (x1_1 ++ y646) x2_1 0) else (none))) = some (r1, r2, r3, r4) := by first | (rw [hy640]; with_reducible exact H) | (have H2_ := (Option.bind_some _ _).symm.trans H; rw [hy640]; with_reducible exact H2_) | (have H2_ := (Option.bind_some _ _).symm.trans H; with_reducible exact H2_) | with_reducible exact H | (rw [hy640]; exact H) | exact H
    have Ny640 := Aside0.mk hy640
    clear hy640
    obtain ⟨y643, hy643⟩ : ∃ y_ : List Int, y_ = (([x2_1, 5, 3] : List Int)) := ⟨_, rfl⟩
    replace H : ((some (([y640, y643] : List (List Int)) : List (List Int))).bind fun y646 => (if x1_1.length + y646.length < 5864062014805 then (spec_OrderRelation.l1 k1 (x1_1 ++ y646) x2_1 0) else (none))) = some (r1, r2, r3, r4) := by first | (rw [hy643]; with_reducible exact H) | (have H2_ := (Option.bind_some _ _).symm.trans H; rw [hy643]; with_reducible exact H2_) | (have H2_ := (Option.bind_some _ _).symm.trans H; with_reducible exact H2_) | with_reducible exact H | (rw [hy643]; exact H) | exact H
    have Ny643 := Aside0.mk hy643
    clear hy643
    obtain ⟨y646, hy646⟩ : ∃ y_ : List (List Int), y_ = (([y640, y643] : List (List Int))) := ⟨_, rfl⟩
    replace H : (if x1_1.length + y646.length < 5864062014805 then (spec_OrderRelation.l1 k1 (x1_1 ++ y646) x2_1 0) else (none)) = some (r1, r2, r3, r4) := by first | (rw [hy646]; with_reducible exact H) | (have H2_ := (Option.bind_some _ _).symm.trans H; rw [hy646]; with_reducible exact H2_) | (have H2_ := (Option.bind_some _ _).symm.trans H; with_reducible exact H2_) | with_reducible exact H | (rw [hy646]; exact H) | exact H
    have Ny646 := Aside0.mk hy646
    clear hy646
    by_cases c23 : x1_1.length + y646.length < 5864062014805
    ·rw [if_pos c23] at H
     have LMc23 := Aside0.mk c23
     clear c23
     obtain ⟨y649, hy649⟩ : ∃ y_ : List (List Int), y_ = (x1_1 ++ y646) := ⟨_, rfl⟩
     replace H : (spec_OrderRelation.l1 k1 y649 x2_1 0) = some (r1, r2, r3, r4) := by first | (rw [hy649]; with_reducible exact H) | (have H2_ := (Option.bind_some _ _).symm.trans H; rw [hy649]; with_reducible exact H2_) | (have H2_ := (Option.bind_some _ _).symm.trans H; with_reducible exact H2_) | with_reducible exact H | (rw [hy649]; exact H) | exact H
     have Ny649 := Aside0.mk hy649
     clear hy649
     have H' := Aside0.mk H
     clear H
     go_wp2_with (first | ((with_reducible refine gate_dst (N := 17) rfl ?_); refine Kd.R_lit (Kd.int .i64) _ 2 ?hg (N := 17) ?hd (xs := ([x2_1, 2, 3] : List Int)) (inner := [.int .i64 x2_1, .int .i64 2, .int .i64 3]) (ok := fun _ => True) (okp := fun _ => True) ?hr ?hp (fun _ hk => hk) trivial (Below.refl _ _) (Nat.le_refl _) (by simp) ?_; (case hd => rfl); (case hg => rfl); (case hr => first | (go_simp; done) | (go_simp; rfl)); (case hp => exact (Reps.one (show Kd.M (Kd.int .i64) _ _ _ x2_1 [.int .i64 x2_1] from rfl) (Reps.one (show Kd.M (Kd.int .i64) _ _ _ 2 [.int .i64 2] from rfl) (Reps.one (show Kd.M (Kd.int .i64) _ _ _ 3 [.int .i64 3] from rfl) (Reps.none _ _))))); intro v641 w24 ho25 hb hg_ hnew_; clear hg_ hnew_; (first | rw [← Ny640.out] at ho25 | (simp only [Int.reduceToNat] at ho25; rw [← Ny640.out] at ho25)); have n0_ := Aside0.mk (Kd.N_elder' (by (with_reducible repeat (first | apply Kd.N_alloc | apply Kd.N_drewN | apply Kd.N_drew)); exact HO_1.out) (Kd.R_base ho25) hb); have n1_ := Aside0.mk (Kd.R_lower (Kd.R_newM (M := fun k_ => (w.heap.size ≤ k_)) ho25 (below_size (by repeat (first | (with_reducible first | exact HB.out | apply below_alloc | apply pw_below_drewN | apply below_drew1 | refine below_set ?_ GE607.out) | exact HB.out))) (fun k_ h_ => h_)) (below_size (by repeat (first | (with_reducible first | exact HB.out | apply below_alloc | apply pw_below_drewN | apply below_drew1 | refine below_set ?_ GE607.out) | exact HB.out)))); have n2_ := Aside0.mk (blk_below (g := gb607) (o := .cells #[.int .i64 0, .int .i64 0, .slice none 0 0, .slice none 0 0] 28 (0, 0)) (by (with_reducible repeat (first | refine blk_drewN ?_ _ | refine blk_drew ?_ | refine blk_alloc ?_ _)); exact BK607.out) hb); have n3_ := Aside0.mk (below_step (by repeat (first | (with_reducible first | exact HB.out | apply below_alloc | apply pw_below_drewN | apply below_drew1 | refine below_set ?_ GE607.out) | exact HB.out)) hb); clear HO_1; clear BK607; clear HB; have HO_1 := n0_; have HO642 := n1_; have BK607 := n2_; have HB := n3_; clear n0_ n1_ n2_ n3_; clear hb ho25) | ((with_reducible refine gate_dst (N := 19) rfl ?_); refine Kd.R_lit (Kd.int .i64) _ 2 ?hg (N := 19) ?hd (xs := ([x2_1, 5, 3] : List Int)) (inner := [.int .i64 x2_1, .int .i64 5, .int .i64 3]) (ok := fun _ => True) (okp := fun _ => True) ?hr ?hp (fun _ hk => hk) trivial (Below.refl _ _) (Nat.le_refl _) (by simp) ?_; (case hd => rfl); (case hg => rfl); (case hr => first | (go_simp; done) | (go_simp; rfl)); (case hp => exact (Reps.one (show Kd.M (Kd.int .i64) _ _ _ x2_1 [.int .i64 x2_1] from rfl) (Reps.one (show Kd.M (Kd.int .i64) _ _ _ 5 [.int .i64 5] from rfl) (Reps.one (show Kd.M (Kd.int .i64) _ _ _ 3 [.int .i64 3] from rfl) (Reps.none _ _))))); intro v644 w26 ho27 hb hg_ hnew_; clear hg_ hnew_; (first | rw [← Ny643.out] at ho27 | (simp only [Int.reduceToNat] at ho27; rw [← Ny643.out] at ho27)); have n0_ := Aside0.mk (Kd.N_elder' (by (with_reducible repeat (first | apply Kd.N_alloc | apply Kd.N_drewN | apply Kd.N_drew)); exact HO_1.out) (Kd.R_base ho27) hb); have n1_ := Aside0.mk (Kd.R_elder' (by (with_reducible repeat (first | apply Kd.R_alloc | apply Kd.R_drewN | apply Kd.R_drew)); exact HO642.out) (Kd.R_base ho27) hb); have n2_ := Aside0.mk (Kd.R_lower (Kd.R_new' (Kd.R_newM (M := fun k_ => (w.heap.size ≤ k_)) ho27 (below_size (by repeat (first | (with_reducible first | exact HB.out | apply below_alloc | apply pw_below_drewN | apply below_drew1 | refine below_set ?_ GE607.out) | exact HB.out))) (fun k_ h_ => h_)) (Kd.R_lt (by (with_reducible repeat (first | apply Kd.R_alloc | apply Kd.R_drewN | apply Kd.R_drew)); exact HO642.out))) (below_size (by repeat (first | (with_reducible first | exact HB.out | apply below_alloc | apply pw_below_drewN | apply below_drew1 | refine below_set ?_ GE607.out) | exact HB.out)))); have n3_ := Aside0.mk (blk_below (g := gb607) (o := .cells #[.int .i64 0, .int .i64 0, .slice none 0 0, .slice none 0 0] 28 (0, 0)) (by (with_reducible repeat (first | refine blk_drewN ?_ _ | refine blk_drew ?_ | refine blk_alloc ?_ _)); exact BK607.out) hb); have n4_ := Aside0.mk (below_step (by repeat (first | (with_reducible first | exact HB.out | apply below_alloc | apply pw_below_drewN | apply below_drew1 | refine below_set ?_ GE607.out) | exact HB.out)) hb); clear HO_1; clear HO642; clear BK607; clear HB; have HO_1 := n0_; have HO642 := n1_; have HO645 := n2_; have BK607 := n3_; have HB := n4_; clear n0_ n1_ n2_ n3_ n4_; clear hb ho27; obtain ⟨Ao28, co28, eo28⟩ := Kd.R_slice HO642.out; subst eo28; obtain ⟨Ao29, co29, eo29⟩ := Kd.R_slice HO645.out; subst eo29) | ((with_reducible refine gate_dst (N := 20) rfl ?_); refine Kd.N_lit (Kd.slice 2 (Kd.int .i64)) _ 55 ?hg (N' := 20) ?hd (xs := ([y640, y643] : List (List Int))) (inner := [.slice Ao28 y640.length co28, .slice Ao29 y643.length co29]) (ok := (fun k_ => (w.heap.size ≤ k_) ∧ some k_ ≠ (u1 : Value).ownBlock ∧ k_ ≠ gb607)) (okp := (fun k_ => (w.heap.size ≤ k_) ∧ some k_ ≠ (u1 : Value).ownBlock ∧ k_ ≠ gb607)) ?hr ?hp (fun _ hk => hk) ((show ∀ k_, w26.heap.size ≤ k_ → (fun k_ => (w.heap.size ≤ k_) ∧ some k_ ≠ (u1 : Value).ownBlock ∧ k_ ≠ gb607) k_ from fun k_ hk => ⟨(Nat.le_trans (below_size (by repeat (first | (with_reducible first | exact HB.out | apply below_alloc | apply pw_below_drewN | apply below_drew1 | refine below_set ?_ GE607.out) | exact HB.out))) hk), Kd.fresh' (Kd.N_lt (by (with_reducible repeat (first | apply Kd.N_alloc | apply Kd.N_drewN | apply Kd.N_drew)); exact HO_1.out)) k_ hk, Kd.freshB (g := gb607) (o := .cells #[.int .i64 0, .int .i64 0, .slice none 0 0, .slice none 0 0] 28 (0, 0)) (by (with_reducible repeat (first | refine blk_drewN ?_ _ | refine blk_drew ?_ | refine blk_alloc ?_ _)); exact BK607.out) k_ hk⟩) _ (Nat.le_refl _)) (Below.refl _ _) (Nat.le_refl _) (by simp) ?_; (case hd => rfl); (case hg => rfl); (case hr => first | (go_simp; done) | (go_simp; rfl)); (case hp => exact (Reps.one (show Kd.FK (Kd.slice 2 (Kd.int .i64)) _ _ y640 [.slice Ao28 y640.length co28] from (Kd.FK_slice_mk (Kd.R_reads' (Kd.R_mono (ok' := (fun k_ => (w.heap.size ≤ k_) ∧ some k_ ≠ (u1 : Value).ownBlock ∧ k_ ≠ gb607)) (Kd.R_types (Kd.R_apart' (HO642.out) (Kd.N_typed HO_1.out) (by decide)) BK607.out (by decide)) (fun k_ hk => ⟨hk.1.1.1.1, ⟨hk.1.2, hk.2⟩⟩))).2.1 (Kd.R_F (Kd.R_mono (ok' := (fun k_ => (w.heap.size ≤ k_) ∧ some k_ ≠ (u1 : Value).ownBlock ∧ k_ ≠ gb607)) (Kd.R_types (Kd.R_apart' (HO642.out) (Kd.N_typed HO_1.out) (by decide)) BK607.out (by decide)) (fun k_ hk => ⟨hk.1.1.1.1, ⟨hk.1.2, hk.2⟩⟩))))) (Reps.one (show Kd.FK (Kd.slice 2 (Kd.int .i64)) _ _ y643 [.slice Ao29 y643.length co29] from (Kd.FK_slice_mk (Kd.R_reads' (Kd.R_mono (ok' := (fun k_ => (w.heap.size ≤ k_) ∧ some k_ ≠ (u1 : Value).ownBlock ∧ k_ ≠ gb607)) (Kd.R_types (Kd.R_apart' (HO645.out) (Kd.N_typed HO_1.out) (by decide)) BK607.out (by decide)) (fun k_ hk => ⟨hk.1.1.1.1, ⟨hk.1.2, hk.2⟩⟩))).2.1 (Kd.R_F (Kd.R_mono (ok' := (fun k_ => (w.heap.size ≤ k_) ∧ some k_ ≠ (u1 : Value).ownBlock ∧ k_ ≠ gb607)) (Kd.R_types (Kd.R_apart' (HO645.out) (Kd.N_typed HO_1.out) (by decide)) BK607.out (by decide)) (fun k_ hk => ⟨hk.1.1.1.1, ⟨hk.1.2, hk.2⟩⟩))))) (Reps.none _ _)))); intro v647 w30 ho31 hb hg_ hnew_; clear hg_ hnew_; (first | rw [← Ny646.out] at ho31 | (simp only [Int.reduceToNat] at ho31; rw [← Ny646.out] at ho31)); have n0_ := Aside0.mk (Kd.N_elder' (by (with_reducible repeat (first | apply Kd.N_alloc | apply Kd.N_drewN | apply Kd.N_drew)); exact HO_1.out) (by first | exact Kd.N_base ho31 | exact Kd.S_base ho31) hb); have n1_ := Aside0.mk (Kd.N_lower ho31 (below_size (by repeat (first | (with_reducible first | exact HB.out | apply below_alloc | apply pw_below_drewN | apply below_drew1 | refine below_set ?_ GE607.out) | exact HB.out)))); have n2_ := Aside0.mk (blk_below (g := gb607) (o := .cells #[.int .i64 0, .int .i64 0, .slice none 0 0, .slice none 0 0] 28 (0, 0)) (by (with_reducible repeat (first | refine blk_drewN ?_ _ | refine blk_drew ?_ | refine blk_alloc ?_ _)); exact BK607.out) hb); have n3_ := Aside0.mk (below_step (by repeat (first | (with_reducible first | exact HB.out | apply below_alloc | apply pw_below_drewN | apply below_drew1 | refine below_set ?_ GE607.out) | exact HB.out)) hb); clear HO_1; clear BK607; clear HB; clear HO642; clear HO645; have HO_1 := n0_; have HO648 := n1_; have BK607 := n2_; have HB := n3_; clear n0_ n1_ n2_ n3_; clear hb ho31; obtain ⟨Ao33, co33, eo33⟩ := Kd.N_slice HO648.out; subst eo33) | ((with_reducible refine gate_builtin (b := .append) (xs := #[.tmp 15, .tmp 20]) rfl ?_); at_builtin; refine Kd.N_append_rows (Kd.slice 2 (Kd.int .i64)) (w0 := w) w.heap.size rfl (.tmp 15) (.tmp 20) 23 55 (.slice none 0 0) 24 rfl Tryd.underlying23 info55 rfl (by decide) (by omega) u1 x1_1 y646 _ _ _ (fun k_ => (w.heap.size ≤ k_) ∧ k_ ≠ gb607) (fun k_ => ((fun k_ => (w.heap.size ≤ k_) ∧ k_ ≠ gb607)) k_ ∧ some k_ ≠ (u1 : Value).ownBlock) rfl rfl ?aO ?aR (fun _ hk => hk) ?aF ?aB ?aS ?aL ?_; (case aR => exact (by skip; exact Kd.N_F (Kd.N_mono (ok' := (fun k_ => ((fun k_ => (w.heap.size ≤ k_) ∧ k_ ≠ gb607)) k_ ∧ some k_ ≠ (u1 : Value).ownBlock)) (HO648.out) (fun k_ hk => ⟨⟨hk.1, hk.2.2⟩, hk.2.1⟩)))); (case aB => exact (by repeat (first | (with_reducible first | exact HB.out | apply below_alloc | apply pw_below_drewN | apply below_drew1 | refine below_set ?_ GE607.out) | exact HB.out))); (case aF => exact (fun k_ hk => ⟨(Nat.le_trans (below_size (by repeat (first | (with_reducible first | exact HB.out | apply below_alloc | apply pw_below_drewN | apply below_drew1 | refine below_set ?_ GE607.out) | exact HB.out))) hk), Kd.freshB (g := gb607) (o := .cells #[.int .i64 0, .int .i64 0, .slice none 0 0, .slice none 0 0] 28 (0, 0)) (by (with_reducible repeat (first | refine blk_drewN ?_ _ | refine blk_drew ?_ | refine blk_alloc ?_ _)); exact BK607.out) k_ hk⟩)); (case aO => exact (by (with_reducible repeat (first | apply Kd.N_alloc | apply Kd.N_drewN | apply Kd.N_drew)); exact Kd.N_mono HO_1.out (fun _ hk => ⟨hk.1.1.1.1, hk.1.1.1.2⟩))); (case aS => exact (below_size (by repeat (first | (with_reducible first | exact HB.out | apply below_alloc | apply pw_below_drewN | apply below_drew1 | refine below_set ?_ GE607.out) | exact HB.out)))); (case aL => have := LMc23.out; omega); intro v650 w32 ho hb hg hat; rw [← Ny649.out] at ho; have n0_ := Aside0.mk (blk_grown (g := gb607) (o := .cells #[.int .i64 0, .int .i64 0, .slice none 0 0, .slice none 0 0] 28 (0, 0)) (by (with_reducible repeat (first | refine blk_drewN ?_ _ | refine blk_drew ?_ | refine blk_alloc ?_ _)); exact BK607.out) hg (Kd.N_ne HO_1.out BK607.out (by decide))); have n1_ := Aside0.mk (Kd.N_afterv (ok := (fun k_ => (w.heap.size ≤ k_) ∧ k_ ≠ gb607)) (by (with_reducible repeat (first | apply Kd.N_alloc | apply Kd.N_drewN | apply Kd.N_drew)); exact Kd.N_mono HO648.out (fun _ hk => ⟨⟨hk.1, hk.2.2⟩, hk.2.1⟩)) hg hat); have n2_ := Aside0.mk (hb); have n3_ := Aside0.mk (ho); clear BK607; clear HO648; clear HB; clear HO_1; have BK607 := n0_; have HO648 := n1_; have HB := n2_; have HO651 := n3_; clear n0_ n1_ n2_ n3_; clear ho hb hg hat))
     go_loopg [1, 3] k1 (fun kq v1 v3 w' => ∃ (x1_2 : List (List Int)) (x3_2 : Int), v3 = .int .i64 x3_2 ∧ Aside0 (spec_OrderRelation.l1 kq x1_2 x2_1 x3_2 = some (r1, r2, r3, r4)) ∧ Aside0 (kq ≤ k1) ∧ Aside0 (Kd.N (Kd.slice 2 (Kd.int .i64)) 55 w' w.heap.size (fun k_ => (w.heap.size ≤ k_) ∧ k_ ≠ gb607) v1 x1_2) ∧ Aside0 (w'.heap[gb607]? = some (.cells #[.int .i64 0, .int .i64 0, (.slice none 0 0), (.slice none 0 0)] 28 (0, 0))) ∧ Aside0 (Below w.heap.size w w'))
     case atStart => exact ⟨(y649), (0), (by first | rfl | (simp; done) | (simp [*]; done)), H', ⟨Nat.le_refl _⟩, ⟨by (with_reducible repeat (first | apply Kd.N_alloc | apply Kd.N_drewN | apply Kd.N_drew)); exact HO651.out⟩, ⟨by (with_reducible repeat (first | refine blk_drewN ?_ _ | refine blk_drew ?_ | refine blk_alloc ?_ _)); exact BK607.out⟩, ⟨by repeat (first | (with_reducible first | exact HB.out | apply below_alloc | apply pw_below_drewN | apply below_drew1 | refine below_set ?_ GE607.out) | exact HB.out)⟩⟩
     case round =>
      clear H'
      try clear c2
      try clear p2
      try clear c3
      try clear c22
      try clear c22b0
      try clear c23
      try clear p2
      obtain ⟨x1_2, x3_2, rfl, HA, HK2, HO_1, BK607, HB⟩ := hrel
      cases gk with
      | zero => exact absurd HA.out (by simp [spec_OrderRelation.l1])
      | succ k2 =>
       have H := HA.out
       clear HA
       simp only [spec_OrderRelation.l1] at H
       by_cases c34 : x3_2 < 4
       ·rw [if_pos c34] at H
        have c34b0 : decide (x3_2 < 4) = true := decide_eq_true c34
        clear c34
        by_cases c35 : x2_1 > 0
        ·rw [if_pos c35] at H
         have c35b0 : decide (0 < x2_1) = true := decide_eq_true c35
         clear c35
         obtain ⟨y652, hy652⟩ : ∃ y_ : List Int, y_ = (([0, 1, 3, 4] : List Int)) := ⟨_, rfl⟩
         replace H : (if 0 ≤ x3_2 then (if x3_2 < (y652.length : Int) then (if x1_2.length < 5864062014805 then (spec_OrderRelation.l1 k2 (x1_2 ++ [(([x2_1, rd y652 x3_2, x2_1] : List Int))]) x2_1 (wrap64 (x3_2 + 1))) else (none)) else (none)) else (none)) = some (r1, r2, r3, r4) := by first | (rw [hy652]; with_reducible exact H) | (have H2_ := (Option.bind_some _ _).symm.trans H; rw [hy652]; with_reducible exact H2_) | (have H2_ := (Option.bind_some _ _).symm.trans H; with_reducible exact H2_) | with_reducible exact H | (rw [hy652]; exact H) | exact H
         have Ny652 := Aside0.mk hy652
         clear hy652
         by_cases c36 : 0 ≤ x3_2
         ·rw [if_pos c36] at H
          have c36b0 : decide (0 ≤ x3_2) = true := decide_eq_true c36
          clear c36
          by_cases c37 : x3_2 < (y652.length : Int)
          ·rw [if_pos c37] at H
           have c37b0 : decide (x3_2 < (y652.length : Int)) = true := decide_eq_true c37
           clear c37
           obtain ⟨y656, hy656⟩ : ∃ y_ : List Int, y_ = (([x2_1, rd y652 x3_2, x2_1] : List Int)) := ⟨_, rfl⟩
           replace H : (if x1_2.length < 5864062014805 then (spec_OrderRelation.l1 k2 (x1_2 ++ [y656]) x2_1 (wrap64 (x3_2 + 1))) else (none)) = some (r1, r2, r3, r4) := by first | (rw [hy656]; with_reducible exact H) | (have H2_ := (Option.bind_some _ _).symm.trans H; rw [hy656]; with_reducible exact H2_) | (have H2_ := (Option.bind_some _ _).symm.trans H; with_reducible exact H2_) | with_reducible exact H | (rw [hy656]; exact H) | exact H
           have Ny656 := Aside0.mk hy656
           clear hy656
           by_cases c38 : x1_2.length < 5864062014805
           ·rw [if_pos c38] at H
            have LMc38 := Aside0.mk c38
            clear c38
            obtain ⟨y659, hy659⟩ : ∃ y_ : List (List Int), y_ = (x1_2 ++ [y656]) := ⟨_, rfl⟩
            replace H : (spec_OrderRelation.l1 k2 y659 x2_1 (wrap64 (x3_2 + 1))) = some (r1, r2, r3, r4) := by first | (rw [hy659]; with_reducible exact H) | (have H2_ := (Option.bind_some _ _).symm.trans H; rw [hy659]; with_reducible exact H2_) | (have H2_ := (Option.bind_some _ _).symm.trans H; with_reducible exact H2_) | with_reducible exact H | (rw [hy659]; exact H) | exact H
            have Ny659 := Aside0.mk hy659
            clear hy659
            have H' := Aside0.mk H
            clear H
            go_wp2_with (first | ((with_reducible refine gate_dst (N := 32) rfl ?_); refine Kd.R_lit (Kd.int .i64) _ 2 ?hg (N := 32) ?hd (xs := ([0, 1, 3, 4] : List Int)) (inner := [.int .i64 0, .int .i64 1, .int .i64 3, .int .i64 4]) (ok := fun _ => True) (okp := fun _ => True) ?hr ?hp (fun _ hk => hk) trivial (Below.refl _ _) (Nat.le_refl _) (by simp) ?_; (case hd => rfl); (case hg => rfl); (case hr => first | (go_simp; done) | (go_simp; rfl)); (case hp => exact (Reps.one (show Kd.M (Kd.int .i64) _ _ _ 0 [.int .i64 0] from rfl) (Reps.one (show Kd.M (Kd.int .i64) _ _ _ 1 [.int .i64 1] from rfl) (Reps.one (show Kd.M (Kd.int .i64) _ _ _ 3 [.int .i64 3] from rfl) (Reps.one (show Kd.M (Kd.int .i64) _ _ _ 4 [.int .i64 4] from rfl) (Reps.none _ _)))))); intro v653 w39 ho40 hb hg_ hnew_; clear hg_ hnew_; (first | rw [← Ny652.out] at ho40 | (simp only [Int.reduceToNat] at ho40; rw [← Ny652.out] at ho40)); have n0_ := Aside0.mk (Kd.N_elder' (by (with_reducible repeat (first | apply Kd.N_alloc | apply Kd.N_drewN | apply Kd.N_drew)); exact HO_1.out) (Kd.R_base ho40) hb); have n1_ := Aside0.mk (Kd.R_lower (Kd.R_newM (M := fun k_ => (w.heap.size ≤ k_)) ho40 (below_size (by repeat (first | (with_reducible first | exact HB.out | apply below_alloc | apply pw_below_drewN | apply below_drew1 | refine below_set ?_ GE607.out) | exact HB.out))) (fun k_ h_ => h_)) (below_size (by repeat (first | (with_reducible first | exact HB.out | apply below_alloc | apply pw_below_drewN | apply below_drew1 | refine below_set ?_ GE607.out) | exact HB.out)))); have n2_ := Aside0.mk (blk_below (g := gb607) (o := .cells #[.int .i64 0, .int .i64 0, .slice none 0 0, .slice none 0 0] 28 (0, 0)) (by (with_reducible repeat (first | refine blk_drewN ?_ _ | refine blk_drew ?_ | refine blk_alloc ?_ _)); exact BK607.out) hb); have n3_ := Aside0.mk (below_step (by repeat (first | (with_reducible first | exact HB.out | apply below_alloc | apply pw_below_drewN | apply below_drew1 | refine below_set ?_ GE607.out) | exact HB.out)) hb); clear HO_1; clear BK607; clear HB; have HO_1 := n0_; have HO654 := n1_; have BK607 := n2_; have HB := n3_; clear n0_ n1_ n2_ n3_; clear hb ho40; obtain ⟨Ao41, co41, eo41⟩ := Kd.R_slice HO654.out; subst eo41; have p655 : 0 ≤ (x3_2 : Int) := of_decide_eq_true (by first | (with_reducible assumption) | assumption); have q655 : x3_2 < (y652.length : Int) := of_decide_eq_true (by first | (with_reducible assumption) | assumption); obtain ⟨ad655, e655, hx655_0⟩ := Kd.at_int (Kd.R_reads' HO654.out).2.2 x3_2 p655 q655; cases e655; replace p655 := eq_true p655; replace q655 := eq_true q655) | ((with_reducible refine gate_dst (N := 37) rfl ?_); refine Kd.R_lit (Kd.int .i64) _ 2 ?hg (N := 37) ?hd (xs := ([x2_1, rd y652 x3_2, x2_1] : List Int)) (inner := [.int .i64 x2_1, .int .i64 (rd y652 x3_2), .int .i64 x2_1]) (ok := fun _ => True) (okp := fun _ => True) ?hr ?hp (fun _ hk => hk) trivial (Below.refl _ _) (Nat.le_refl _) (by simp) ?_; (case hd => rfl); (case hg => rfl); (case hr => first | (go_simp; done) | (go_simp; rfl)); (case hp => exact (Reps.one (show Kd.M (Kd.int .i64) _ _ _ x2_1 [.int .i64 x2_1] from rfl) (Reps.one (show Kd.M (Kd.int .i64) _ _ _ (rd y652 x3_2) [.int .i64 (rd y652 x3_2)] from rfl) (Reps.one (show Kd.M (Kd.int .i64) _ _ _ x2_1 [.int .i64 x2_1] from rfl) (Reps.none _ _))))); intro v657 w42 ho43 hb hg_ hnew_; clear hg_ hnew_; (first | rw [← Ny656.out] at ho43 | (simp only [Int.reduceToNat] at ho43; rw [← Ny656.out] at ho43)); have n0_ := Aside0.mk (Kd.N_elder' (by (with_reducible repeat (first | apply Kd.N_alloc | apply Kd.N_drewN | apply Kd.N_drew)); exact HO_1.out) (Kd.R_base ho43) hb); have n1_ := Aside0.mk (Kd.R_elder' (by (with_reducible repeat (first | apply Kd.R_alloc | apply Kd.R_drewN | apply Kd.R_drew)); exact HO654.out) (Kd.R_base ho43) hb); have n2_ := Aside0.mk (Kd.R_lower (Kd.R_new' (Kd.R_newM (M := fun k_ => (w.heap.size ≤ k_)) ho43 (below_size (by repeat (first | (with_reducible first | exact HB.out | apply below_alloc | apply pw_below_drewN | apply below_drew1 | refine below_set ?_ GE607.out) | exact HB.out))) (fun k_ h_ => h_)) (Kd.R_lt (by (with_reducible repeat (first | apply Kd.R_alloc | apply Kd.R_drewN | apply Kd.R_drew)); exact HO654.out))) (below_size (by repeat (first | (with_reducible first | exact HB.out | apply below_alloc | apply pw_below_drewN | apply below_drew1 | refine below_set ?_ GE607.out) | exact HB.out)))); have n3_ := Aside0.mk (blk_below (g := gb607) (o := .cells #[.int .i64 0, .int .i64 0, .slice none 0 0, .slice none 0 0] 28 (0, 0)) (by (with_reducible repeat (first | refine blk_drewN ?_ _ | refine blk_drew ?_ | refine blk_alloc ?_ _)); exact BK607.out) hb); have n4_ := Aside0.mk (below_step (by repeat (first | (with_reducible first | exact HB.out | apply below_alloc | apply pw_below_drewN | apply below_drew1 | refine below_set ?_ GE607.out) | exact HB.out)) hb); clear HO_1; clear HO654; clear BK607; clear HB; have HO_1 := n0_; have HO654 := n1_; have HO658 := n2_; have BK607 := n3_; have HB := n4_; clear n0_ n1_ n2_ n3_ n4_; clear hb ho43; obtain ⟨Ao45, co45, eo45⟩ := Kd.R_slice HO658.out; subst eo45) | ((with_reducible refine gate_builtin (b := .append) (xs := #[.tmp 30, .tmp 38]) rfl ?_); at_builtin; refine Kd.N_append (Kd.slice 2 (Kd.int .i64)) (w0 := w) w.heap.size rfl (.tmp 30) (.tmp 38) 23 55 (.slice none 0 0) 24 rfl Tryd.underlying23 info55 rfl (by decide) (by omega) u1 x1_2 y656 [.slice Ao45 y656.length co45] (fun k_ => (w.heap.size ≤ k_) ∧ some k_ ≠ (.slice (some ad655) y652.length co41 : Value).ownBlock ∧ k_ ≠ gb607) (fun k_ => ((fun k_ => (w.heap.size ≤ k_) ∧ some k_ ≠ (.slice (some ad655) y652.length co41 : Value).ownBlock ∧ k_ ≠ gb607)) k_ ∧ some k_ ≠ (u1 : Value).ownBlock) rfl rfl ?aP (fun _ hk => hk) ?aF ?aO ?aB ?aS ?aL ?_; (case aP => exact (Kd.FK_slice_mk (Kd.R_reads' (Kd.R_mono (ok' := (fun k_ => ((fun k_ => (w.heap.size ≤ k_) ∧ some k_ ≠ (.slice (some ad655) y652.length co41 : Value).ownBlock ∧ k_ ≠ gb607)) k_ ∧ some k_ ≠ (u1 : Value).ownBlock)) (Kd.R_types (Kd.R_apart' (HO658.out) (Kd.N_typed HO_1.out) (by decide)) BK607.out (by decide)) (fun k_ hk => ⟨⟨hk.1.1.1.1, ⟨hk.1.1.2, hk.2⟩⟩, hk.1.2⟩))).2.1 (Kd.R_F (Kd.R_mono (ok' := (fun k_ => ((fun k_ => (w.heap.size ≤ k_) ∧ some k_ ≠ (.slice (some ad655) y652.length co41 : Value).ownBlock ∧ k_ ≠ gb607)) k_ ∧ some k_ ≠ (u1 : Value).ownBlock)) (Kd.R_types (Kd.R_apart' (HO658.out) (Kd.N_typed HO_1.out) (by decide)) BK607.out (by decide)) (fun k_ hk => ⟨⟨hk.1.1.1.1, ⟨hk.1.1.2, hk.2⟩⟩, hk.1.2⟩))))); (case aB => exact (by repeat (first | (with_reducible first | exact HB.out | apply below_alloc | apply pw_below_drewN | apply below_drew1 | refine below_set ?_ GE607.out) | exact HB.out))); (case aF => exact (fun k_ hk => ⟨(Nat.le_trans (below_size (by repeat (first | (with_reducible first | exact HB.out | apply below_alloc | apply pw_below_drewN | apply below_drew1 | refine below_set ?_ GE607.out) | exact HB.out))) hk), Kd.fresh' (Kd.R_lt (by (with_reducible repeat (first | apply Kd.R_alloc | apply Kd.R_drewN | apply Kd.R_drew)); exact HO654.out)) k_ hk, Kd.freshB (g := gb607) (o := .cells #[.int .i64 0, .int .i64 0, .slice none 0 0, .slice none 0 0] 28 (0, 0)) (by (with_reducible repeat (first | refine blk_drewN ?_ _ | refine blk_drew ?_ | refine blk_alloc ?_ _)); exact BK607.out) k_ hk⟩)); (case aO => exact (by (with_reducible repeat (first | apply Kd.N_alloc | apply Kd.N_drewN | apply Kd.N_drew)); exact Kd.N_mono HO_1.out (fun _ hk => ⟨hk.1.1.1, ⟨hk.1.2, hk.1.1.2⟩⟩))); (case aS => exact (below_size (by repeat (first | (with_reducible first | exact HB.out | apply below_alloc | apply pw_below_drewN | apply below_drew1 | refine below_set ?_ GE607.out) | exact HB.out)))); (case aL => have := LMc38.out; omega); intro v660 w44 ho hb hg hat; rw [← Ny659.out] at ho; have n0_ := Aside0.mk (blk_grown (g := gb607) (o := .cells #[.int .i64 0, .int .i64 0, .slice none 0 0, .slice none 0 0] 28 (0, 0)) (by (with_reducible repeat (first | refine blk_drewN ?_ _ | refine blk_drew ?_ | refine blk_alloc ?_ _)); exact BK607.out) hg (Kd.N_ne HO_1.out BK607.out (by decide))); have n1_ := Aside0.mk (Kd.R_over' (by (with_reducible repeat (first | apply Kd.R_alloc | apply Kd.R_drewN | apply Kd.R_drew)); exact HO654.out) (Kd.N_typed (by (with_reducible repeat (first | apply Kd.N_alloc | apply Kd.N_drewN | apply Kd.N_drew)); exact HO_1.out)) (by decide) hg); have n2_ := Aside0.mk (hb); have n3_ := Aside0.mk (ho); clear BK607; clear HO654; clear HB; clear HO_1; clear HO658; have BK607 := n0_; have HO654 := n1_; have HB := n2_; have HO661 := n3_; clear n0_ n1_ n2_ n3_; clear ho hb hg hat))
            go_roundg k2
            case measure => have := HK1.out; have := HK2.out; omega
            case rel => exact ⟨(y659), (wrap64 (x3_2 + 1)), (by first | rfl | (simp; done) | (simp [*]; done)), H', ⟨by have := HK1.out; have := HK2.out; omega⟩, ⟨by (with_reducible repeat (first | apply Kd.N_alloc | apply Kd.N_drewN | apply Kd.N_drew)); exact Kd.N_mono HO661.out (fun _ hk => ⟨hk.1, hk.2.2⟩)⟩, ⟨by (with_reducible repeat (first | refine blk_drewN ?_ _ | refine blk_drew ?_ | refine blk_alloc ?_ _)); exact BK607.out⟩, ⟨by repeat (first | (with_reducible first | exact HB.out | apply below_alloc | apply pw_below_drewN | apply below_drew1 | refine below_set ?_ GE607.out) | exact HB.out)⟩⟩
           ·rw [if_neg c38] at H
            exact absurd H (by simp)
          ·rw [if_neg c37] at H
           exact absurd H (by simp)
         ·rw [if_neg c36] at H
          exact absurd H (by simp)
        ·rw [if_neg c35] at H
         have c35b0 : decide (0 < x2_1) = false := decide_eq_false c35
         clear c35
         have H' := Aside0.mk H
         clear H
         go_wp2
         go_roundg k2
         case measure => have := HK1.out; have := HK2.out; omega
         case rel => exact ⟨(x1_2), (wrap64 (x2_1 + 1)), (by first | rfl | (simp; done) | (simp [*]; done)), H', ⟨by have := HK1.out; have := HK2.out; omega⟩, ⟨by (with_reducible repeat (first | apply Kd.N_alloc | apply Kd.N_drewN | apply Kd.N_drew)); exact HO_1.out⟩, ⟨by (with_reducible repeat (first | refine blk_drewN ?_ _ | refine blk_drew ?_ | refine blk_alloc ?_ _)); exact BK607.out⟩, ⟨by repeat (first | (with_reducible first | exact HB.out | apply below_alloc | apply pw_below_drewN | apply below_drew1 | refine below_set ?_ GE607.out) | exact HB.out)⟩⟩
       ·rw [if_neg c34] at H
        have c34b0 : decide (x3_2 < 4) = false := decide_eq_false c34
        clear c34
        have H' := Aside0.mk H
        clear H
        go_wp2
        go_roundg k2
        case measure => have := HK1.out; have := HK2.out; omega
        case rel => exact ⟨(x1_2), (wrap64 (x2_1 + 1)), (by first | rfl | (simp; done) | (simp [*]; done)), H', ⟨by have := HK1.out; have := HK2.out; omega⟩, ⟨by (with_reducible repeat (first | apply Kd.N_alloc | apply Kd.N_drewN | apply Kd.N_drew)); exact HO_1.out⟩, ⟨by (with_reducible repeat (first | refine blk_drewN ?_ _ | refine blk_drew ?_ | refine blk_alloc ?_ _)); exact BK607.out⟩, ⟨by repeat (first | (with_reducible first | exact HB.out | apply below_alloc | apply pw_below_drewN | apply below_drew1 | refine below_set ?_ GE607.out) | exact HB.out)⟩⟩
    ·rw [if_neg c23] at H
     exact absurd H (by simp)
   ·rw [if_neg c22] at H
    have c22b0 : decide (x2_1 < 3) = false := decide_eq_false c22
    clear c22
    obtain ⟨y629, hy629⟩ : ∃ y_ : List Bool, y_ = (([false, true, false, true] : List Bool)) := ⟨_, rfl⟩
    replace H : ((spec_l02Known.f k1 y629 x1_1).bind fun bt632 => (some (bt632.1, bt632.2.1, bt632.2.2.1, bt632.2.2.2))) = some (r1, r2, r3, r4) := by first | (rw [hy629]; with_reducible exact H) | (have H2_ := (Option.bind_some _ _).symm.trans H; rw [hy629]; with_reducible exact H2_) | (have H2_ := (Option.bind_some _ _).symm.trans H; with_reducible exact H2_) | with_reducible exact H | (rw [hy629]; exact H) | exact H
    have Ny629 := Aside0.mk hy629
    clear hy629
    replace H := Option.bind_eq_some_iff.mp H
    obtain ⟨⟨t632, t633, t634, t637⟩, A460, H⟩ := H
    replace H : (some (t632, t633, t634, t637)) = some (r1, r2, r3, r4) := H
    have A46 := Aside0.mk A460
    clear A460
    simp only [Option.some.injEq, Prod.mk.injEq] at H
    obtain ⟨rfl, rfl, rfl, rfl⟩ := H
    go_wp2_with (first | ((with_reducible refine gate_dst (N := 40) rfl ?_); refine Kd.R_lit Kd.bool _ 4 ?hg (N := 40) ?hd (xs := ([false, true, false, true] : List Bool)) (inner := [.bool false, .bool true, .bool false, .bool true]) (ok := fun _ => True) (okp := fun _ => True) ?hr ?hp (fun _ hk => hk) trivial (Below.refl _ _) (Nat.le_refl _) (by simp) ?_; (case hd => rfl); (case hg => rfl); (case hr => first | (go_simp; done) | (go_simp; rfl)); (case hp => exact (Reps.one (show Kd.M Kd.bool _ _ _ false [.bool false] from rfl) (Reps.one (show Kd.M Kd.bool _ _ _ true [.bool true] from rfl) (Reps.one (show Kd.M Kd.bool _ _ _ false [.bool false] from rfl) (Reps.one (show Kd.M Kd.bool _ _ _ true [.bool true] from rfl) (Reps.none _ _)))))); intro v630 w47 ho48 hb hg_ hnew_; clear hg_ hnew_; (first | rw [← Ny629.out] at ho48 | (simp only [Int.reduceToNat] at ho48; rw [← Ny629.out] at ho48)); have n0_ := Aside0.mk (Kd.N_elder' (by (with_reducible repeat (first | apply Kd.N_alloc | apply Kd.N_drewN | apply Kd.N_drew)); exact HO_1.out) (Kd.R_base ho48) hb); have n1_ := Aside0.mk (Kd.R_lower (Kd.R_newM (M := fun k_ => (w.heap.size ≤ k_)) ho48 (below_size (by repeat (first | (with_reducible first | exact HB.out | apply below_alloc | apply pw_below_drewN | apply below_drew1 | refine below_set ?_ GE607.out) | exact HB.out))) (fun k_ h_ => h_)) (below_size (by repeat (first | (with_reducible first | exact HB.out | apply below_alloc | apply pw_below_drewN | apply below_drew1 | refine below_set ?_ GE607.out) | exact HB.out)))); have n2_ := Aside0.mk (blk_below (g := gb607) (o := .cells #[.int .i64 0, .int .i64 0, .slice none 0 0, .slice none 0 0] 28 (0, 0)) (by (with_reducible repeat (first | refine blk_drewN ?_ _ | refine blk_drew ?_ | refine blk_alloc ?_ _)); exact BK607.out) hb); have n3_ := Aside0.mk (below_step (by repeat (first | (with_reducible first | exact HB.out | apply below_alloc | apply pw_below_drewN | apply below_drew1 | refine below_set ?_ GE607.out) | exact HB.out)) hb); clear HO_1; clear BK607; clear HB; have HO_1 := n0_; have HO631 := n1_; have BK607 := n2_; have HB := n3_; clear n0_ n1_ n2_ n3_; clear hb ho48; obtain ⟨Ao49, co49, eo49⟩ := Kd.R_slice HO631.out; subst eo49; obtain ⟨Ao50, co50, eo50⟩ := Kd.N_slice HO_1.out; subst eo50) | ((with_reducible refine gate_callee (f := 74) rfl ?_); refine goesL_ (some 42) rfl rfl Tryd.func74 (by kernel_rfl) rfl #[.slice Ao49 y629.length co49, .slice Ao50 x1_1.length co50] rfl (by (try simp only [List.map_toArray, List.map_cons, List.map_nil]); first | done | rfl | (simp only [List.length_drop, List.length_take]; rfl)) ?_; (with_reducible refine (spec_l02Known.calls k1 _ _ y629 _ _ x1_1 t632 t633 t634 t637 _ ?side1 ?side2 ?side3 ?side4 A46.out).mono ?_); (case side1 => repeat (first | exact (Kd.R_reads' HO631.out).2.2 | (with_reducible refine Kd.C_alloc ?_ _) | (with_reducible refine Kd.C_drewN ?_ _) | (with_reducible refine Kd.C_drew ?_))); (case side2 => exact (Kd.R_reads' HO631.out).2.1); (case side3 => repeat (first | exact (Kd.N_reads' HO_1.out).2.2 | (with_reducible refine Kd.C_alloc ?_ _) | (with_reducible refine Kd.C_drewN ?_ _) | (with_reducible refine Kd.C_drew ?_))); (case side4 => exact (Kd.N_reads' HO_1.out).2.1); rintro e w51 ⟨v635, v638, rfl, ho0, ho1, hb⟩; refine ⟨_, rfl, ?_⟩; have n0_ := Aside0.mk (Kd.N_mono (Kd.N_told (Kd.N_told (Kd.N_old (by (with_reducible repeat (first | apply Kd.N_alloc | apply Kd.N_drewN | apply Kd.N_drew)); exact HO_1.out) hb) (Kd.R_base ho0)) (by first | exact Kd.N_base ho1 | exact Kd.S_base ho1)) (fun _ h_ => h_.1)); have n1_ := Aside0.mk (Kd.R_elder' (by (with_reducible repeat (first | apply Kd.R_alloc | apply Kd.R_drewN | apply Kd.R_drew)); exact HO631.out) (Kd.R_base ho0) hb); have n2_ := Aside0.mk (Kd.R_lower (Kd.R_new' (Kd.R_newM (M := fun k_ => (w.heap.size ≤ k_)) ho0 (below_size (by repeat (first | (with_reducible first | exact HB.out | apply below_alloc | apply pw_below_drewN | apply below_drew1 | refine below_set ?_ GE607.out) | exact HB.out))) (fun k_ h_ => h_)) (Kd.R_lt (by (with_reducible repeat (first | apply Kd.R_alloc | apply Kd.R_drewN | apply Kd.R_drew)); exact HO631.out))) (below_size (by repeat (first | (with_reducible first | exact HB.out | apply below_alloc | apply pw_below_drewN | apply below_drew1 | refine below_set ?_ GE607.out) | exact HB.out)))); have n3_ := Aside0.mk (Kd.N_lower (Kd.N_mono (ok' := fun k_ => (w.heap.size ≤ k_) ∧ some k_ ≠ (v635 : Value).ownBlock ∧ some k_ ≠ (.slice Ao50 x1_1.length co50 : Value).ownBlock ∧ some k_ ≠ (.slice Ao49 y629.length co49 : Value).ownBlock ∧ k_ ≠ gb607) (Kd.S_N (Kd.S_bound (Kd.S_apart' ho1 (Kd.R_typed ho0) (by decide)))) (fun k_ hk_ => ⟨(Nat.le_trans (below_size (by repeat (first | (with_reducible first | exact HB.out | apply below_alloc | apply pw_below_drewN | apply below_drew1 | refine below_set ?_ GE607.out) | exact HB.out))) hk_.2.1), hk_.1.2, (Kd.fresh' (Kd.N_lt (by (with_reducible repeat (first | apply Kd.N_alloc | apply Kd.N_drewN | apply Kd.N_drew)); exact HO_1.out)) k_ hk_.2.1), (Kd.fresh' (Kd.R_lt (by (with_reducible repeat (first | apply Kd.R_alloc | apply Kd.R_drewN | apply Kd.R_drew)); exact HO631.out)) k_ hk_.2.1), (Kd.freshB (g := gb607) (o := .cells #[.int .i64 0, .int .i64 0, .slice none 0 0, .slice none 0 0] 28 (0, 0)) (by (with_reducible repeat (first | refine blk_drewN ?_ _ | refine blk_drew ?_ | refine blk_alloc ?_ _)); exact BK607.out) k_ hk_.2.1)⟩)) (below_size (by repeat (first | (with_reducible first | exact HB.out | apply below_alloc | apply pw_below_drewN | apply below_drew1 | refine below_set ?_ GE607.out) | exact HB.out)))); have n4_ := Aside0.mk (blk_below (g := gb607) (o := .cells #[.int .i64 0, .int .i64 0, .slice none 0 0, .slice none 0 0] 28 (0, 0)) (by (with_reducible repeat (first | refine blk_drewN ?_ _ | refine blk_drew ?_ | refine blk_alloc ?_ _)); exact BK607.out) hb); have n5_ := Aside0.mk (below_step (by repeat (first | (with_reducible first | exact HB.out | apply below_alloc | apply pw_below_drewN | apply below_drew1 | refine below_set ?_ GE607.out) | exact HB.out)) hb); clear HO_1; clear HO631; clear BK607; clear HB; have HO_1 := n0_; have HO631 := n1_; have HO636 := n2_; have HO639 := n3_; have BK607 := n4_; have HB := n5_; clear n0_ n1_ n2_ n3_ n4_ n5_; (try clear hb); (try clear hb2); (try clear hk); (try clear hi); (try clear ho0); (try clear ho1); have hcz52_0 : w51.cell? ⟨gb607, 0, none⟩ = some (.int .i64 0) := (blk_cell BK607.out 0).trans rfl; have hcz52_1 : w51.cell? ⟨gb607, 1, none⟩ = some (.int .i64 0) := (blk_cell BK607.out 1).trans rfl; have hcz52_2 : w51.cell? ⟨gb607, 2, none⟩ = some (.slice none 0 0) := (blk_cell BK607.out 2).trans rfl; have hcz52_3 : w51.cell? ⟨gb607, 3, none⟩ = some (.slice none 0 0) := (blk_cell BK607.out 3).trans rfl; have hfz52_0 := blk_frozen BK607.out 0; have hfz52_1 := blk_frozen BK607.out 1; have hfz52_2 := blk_frozen BK607.out 2; have hfz52_3 := blk_frozen BK607.out 3; obtain ⟨Ao53, co53, eo53⟩ := Kd.R_slice HO636.out; subst eo53; obtain ⟨Ao54, co54, eo54⟩ := Kd.N_slice HO639.out; subst eo54))
    refine bodyPost_ret (results_cell_row rfl _ _ gb607 28 #[.int .i64 t632, .int .i64 t633, .slice Ao53 t634.length co53, .slice Ao54 t637.length co54] (0, 0) _ rfl (by (with_reducible repeat (first | refine blk_drewN ?_ _ | refine blk_drew ?_ | refine blk_alloc ?_ _)); refine blk_put (cs := #[.int .i64 t632, .int .i64 t633, .slice Ao53 t634.length co53, .slice none 0 0]) ?_ 3 _ rfl; (with_reducible repeat (first | refine blk_drewN ?_ _ | refine blk_drew ?_ | refine blk_alloc ?_ _)); refine blk_put (cs := #[.int .i64 t632, .int .i64 t633, .slice none 0 0, .slice none 0 0]) ?_ 2 _ rfl; (with_reducible repeat (first | refine blk_drewN ?_ _ | refine blk_drew ?_ | refine blk_alloc ?_ _)); refine blk_put (cs := #[.int .i64 t632, .int .i64 0, .slice none 0 0, .slice none 0 0]) ?_ 1 _ rfl; (with_reducible repeat (first | refine blk_drewN ?_ _ | refine blk_drew ?_ | refine blk_alloc ?_ _)); refine blk_put (cs := #[.int .i64 0, .int .i64 0, .slice none 0 0, .slice none 0 0]) ?_ 0 _ rfl; (with_reducible repeat (first | refine blk_drewN ?_ _ | refine blk_drew ?_ | refine blk_alloc ?_ _)); exact BK607.out) Tryd.underlying28 rfl (by kernel_rfl)) rfl ?_
    exact ⟨_, _, by first | rfl | (simp [errW_none, errW_some] <;> rfl) | (simp [*, errW_none, errW_some] <;> rfl), by (with_reducible repeat (first | apply Kd.R_alloc | apply Kd.R_drewN | apply Kd.R_drew)); exact Kd.R_mono (Kd.R_far (p := ⟨gb607, 3, none⟩) (Kd.R_far (p := ⟨gb607, 2, none⟩) (Kd.R_far (p := ⟨gb607, 1, none⟩) (Kd.R_far (p := ⟨gb607, 0, none⟩) (Kd.R_types HO636.out BK607.out (by decide)) (fun _ hk => hk.2) (.int .i64 t632)) (fun _ hk => hk.2) (.int .i64 t633)) (fun _ hk => hk.2) (.slice Ao53 t634.length co53)) (fun _ hk => hk.2) (.slice Ao54 t637.length co54)) (fun _ hk => hk.1.1.1), by (with_reducible repeat (first | apply Kd.N_alloc | apply Kd.N_drewN | apply Kd.N_drew)); exact Kd.N_mono (Kd.N_far (p := ⟨gb607, 3, none⟩) (Kd.N_far (p := ⟨gb607, 2, none⟩) (Kd.N_far (p := ⟨gb607, 1, none⟩) (Kd.N_far (p := ⟨gb607, 0, none⟩) (Kd.N_mono HO639.out (fun k_ hk => (⟨hk, hk.2.2.2.2⟩ : _ ∧ k_ ≠ gb607))) (fun _ hk => hk.2) (.int .i64 t632)) (fun _ hk => hk.2) (.int .i64 t633)) (fun _ hk => hk.2) (.slice Ao53 t634.length co53)) (fun _ hk => hk.2) (.slice Ao54 t637.length co54)) (fun _ hk => ⟨hk.1.1, hk.1.2.1⟩), by repeat (first | (with_reducible first | exact HB.out | apply below_alloc | apply pw_below_drewN | apply below_drew1 | refine below_set ?_ GE607.out) | exact HB.out)⟩
end Go.Proofs.YtbkcllfgolmloaaDoor.X

namespace Go.Proofs.YtbkcllfgolmloaaDoor.X
open Go Go.RowKit Go.Proofs.YtbkcllfgolmloaaDoorW.PrintWords Go.Proofs.YtbkcllfgolmloaaDoorW.PrintLast Go.Proofs.YtbkcllfgolmloaaDoorW.PrintMore
set_option linter.unusedVariables false
set_option linter.unusedSimpArgs false
open Classical in
noncomputable def laws_FnExactOrderRelation.f (k : Nat)  : Option Bool := (spec_OrderRelation.f k ).bind fun | (r0_0, r0_1, r0_2, r0_3) => if impl_OrderRelation.f k  = some (r0_0, r0_1, r0_2, r0_3) then (if laws_eqRelation.f k r0_0 r0_1 r0_2 r0_3 r0_0 r0_1 r0_2 r0_3 = some true then ((laws_markBoolS.f k r0_2 1).bind fun | (m4a, r0_2m) => (laws_markInt64SS.f k r0_3 m4a).bind fun | (m4, r0_3m) => if m4 < 0 then none else (if laws_heldRelation.f k r0_0 r0_1 r0_2m r0_3m 1 = some m4 then (some true) else none)) else none) else none
set_option maxHeartbeats 16000000 in
set_option maxRecDepth 100000 in
theorem laws_FnExactOrderRelation.main (k : Nat)  (w : World) (htab : TabOK w)  (r0_0 : Int) (r0_1 : Int) (r0_2 : List Bool) (r0_3 : List (List Int)) (m4a : Int) (r0_2m : List Bool) (m4 : Int) (r0_3m : List (List Int)) (hS : spec_OrderRelation.f k  = some (r0_0, r0_1, r0_2, r0_3)) (hI : impl_OrderRelation.f k  = some (r0_0, r0_1, r0_2, r0_3)) (her : laws_eqRelation.f k r0_0 r0_1 r0_2 r0_3 r0_0 r0_1 r0_2 r0_3 = some true) (hm4a : laws_markBoolS.f k r0_2 1 = some (m4a, r0_2m)) (hm4b : laws_markInt64SS.f k r0_3 m4a = some (m4, r0_3m)) (hn4 : ¬ m4 < 0) (hh : laws_heldRelation.f k r0_0 r0_1 r0_2m r0_3m 1 = some m4)  :
  Calls Tryd.prog 11 #[] w fun e w' => e = .returned (.bool true) ∧ Below w.heap.size w w' := by
 have HS := Aside0.mk hS
 have HI := Aside0.mk hI
 have HER := Aside0.mk her
 have HM4A := Aside0.mk hm4a
 have HM4B := Aside0.mk hm4b
 have HN4 := Aside0.mk hn4
 have HH := Aside0.mk hh
 have HT := Aside0.mk htab
 clear hS hI her hm4a hm4b hn4 hh htab
 have HB_w := Aside0.mk (Below.refl w.heap.size w)
 go_enter Tryd.func11, Tryd.ntmps11
 go_wp2_with (fail)
 with_reducible refine (spec_OrderRelation.calls k  r0_0 r0_1 r0_2 r0_3 _  HS.out).mono ?_
 rintro e w1 ⟨vy102, vy103, rfl, hy102, hy103, hb⟩
 obtain ⟨Ay102, cy102, hvy102⟩ := Kd.R_slice hy102
 subst hvy102
 obtain ⟨Ay103, cy103, hvy103⟩ := Kd.N_slice hy103
 subst hvy103
 have HZ_w1 := Aside0.mk (show w.heap.size + 0 ≤ w1.heap.size by have := hb.size; omega)
 have RIy10_w1 := Aside0.mk (RelRd.mk_ (base := w.heap.size) HB_w.out.size hy102 hy103 (fun k_ h_ => h_.1))
 have HB_w1 := Aside0.mk (below_then HB_w.out HB_w.out.size hb)
 clear HB_w
 clear hy102 hy103 hb
 go_upto_region 2 with (fail)
 have BX1_w2 := Aside0.mk (blk_new w1 (.cells #[.int .i64 r0_0, .int .i64 r0_1, .slice Ay102 r0_2.length cy102, .slice Ay103 r0_3.length cy103] 28))
 have hb := below_alloc (Below.refl w1.heap.size w1) (.cells #[.int .i64 r0_0, .int .i64 r0_1, .slice Ay102 r0_2.length cy102, .slice Ay103 r0_3.length cy103] 28)
 have HZ_w2 := Aside0.mk (show w1.heap.size + 1 ≤ (w1.alloc (.cells #[.int .i64 r0_0, .int .i64 r0_1, .slice Ay102 r0_2.length cy102, .slice Ay103 r0_3.length cy103] 28)).heap.size by simp)
 have HB_w2 := Aside0.mk (below_then HB_w1.out HB_w1.out.size hb)
 have RIy10_w2 := Aside0.mk (RIy10_w1.out.below hb)
 clear HB_w1 RIy10_w1
 clear hb
 generalize w1.alloc _ = w2 at *
 go_wp2_with (fail)
 with_reducible refine (impl_OrderRelation.calls k  r0_0 r0_1 r0_2 r0_3 _ (tab_below HT.out HB_w2.out)  HI.out).mono ?_
 rintro e w3 ⟨vy202, vy203, rfl, hy202, hy203, hb⟩
 obtain ⟨Ay202, cy202, hvy202⟩ := Kd.R_slice hy202
 subst hvy202
 obtain ⟨Ay203, cy203, hvy203⟩ := Kd.S_slice hy203
 subst hvy203
 have HZ_w3 := Aside0.mk (show w2.heap.size + 0 ≤ w3.heap.size by have := hb.size; omega)
 have RIy20_w3 := Aside0.mk (RelOwn.mk_ (base := w.heap.size) HB_w2.out.size hy202 hy203)
 have HB_w3 := Aside0.mk (below_then HB_w2.out HB_w2.out.size hb)
 have RIy10_w3 := Aside0.mk (RIy10_w2.out.below hb)
 have BX1_w3 := Aside0.mk (blk_below BX1_w2.out hb)
 clear HB_w2 RIy10_w2 BX1_w2
 clear hy202 hy203 hb
 go_upto_region 3 with (fail)
 have BX2_w4 := Aside0.mk (blk_new w3 (.cells #[.int .i64 r0_0, .int .i64 r0_1, .slice Ay202 r0_2.length cy202, .slice Ay203 r0_3.length cy203] 28))
 have hb := below_alloc (Below.refl w3.heap.size w3) (.cells #[.int .i64 r0_0, .int .i64 r0_1, .slice Ay202 r0_2.length cy202, .slice Ay203 r0_3.length cy203] 28)
 have HZ_w4 := Aside0.mk (show w3.heap.size + 1 ≤ (w3.alloc (.cells #[.int .i64 r0_0, .int .i64 r0_1, .slice Ay202 r0_2.length cy202, .slice Ay203 r0_3.length cy203] 28)).heap.size by simp)
 have HB_w4 := Aside0.mk (below_then HB_w3.out HB_w3.out.size hb)
 have RIy10_w4 := Aside0.mk (RIy10_w3.out.below hb)
 have BX1_w4 := Aside0.mk (blk_below BX1_w3.out hb)
 have RIy20_w4 := Aside0.mk (RIy20_w3.out.below hb)
 clear HB_w3 RIy10_w3 BX1_w3 RIy20_w3
 clear hb
 generalize w3.alloc _ = w4 at *
 have hx0_0 : w4.cell? ⟨w3.heap.size, 0, none⟩ = some (.int .i64 r0_0) := (blk_cell BX2_w4.out 0).trans rfl
 have hx0_1 : w4.cell? ⟨w3.heap.size, 1, none⟩ = some (.int .i64 r0_1) := (blk_cell BX2_w4.out 1).trans rfl
 have hx0_2 : w4.cell? ⟨w3.heap.size, 2, none⟩ = some (.slice Ay202 r0_2.length cy202) := (blk_cell BX2_w4.out 2).trans rfl
 have hx0_3 : w4.cell? ⟨w3.heap.size, 3, none⟩ = some (.slice Ay203 r0_3.length cy203) := (blk_cell BX2_w4.out 3).trans rfl
 have hx1_0 : w4.cell? ⟨w1.heap.size, 0, none⟩ = some (.int .i64 r0_0) := (blk_cell BX1_w4.out 0).trans rfl
 have hx1_1 : w4.cell? ⟨w1.heap.size, 1, none⟩ = some (.int .i64 r0_1) := (blk_cell BX1_w4.out 1).trans rfl
 have hx1_2 : w4.cell? ⟨w1.heap.size, 2, none⟩ = some (.slice Ay102 r0_2.length cy102) := (blk_cell BX1_w4.out 2).trans rfl
 have hx1_3 : w4.cell? ⟨w1.heap.size, 3, none⟩ = some (.slice Ay103 r0_3.length cy103) := (blk_cell BX1_w4.out 3).trans rfl
 go_wp2_with (fail)
 clear hx0_0 hx0_1 hx0_2 hx0_3 hx1_0 hx1_1 hx1_2 hx1_3
 with_reducible refine (laws_eqRelation.calls k r0_0 r0_1 _ _ r0_2 _ _ r0_3 r0_0 r0_1 _ _ r0_2 _ _ r0_3 true _ RIy20_w4.out.reads.1 RIy20_w4.out.reads.2.1 RIy20_w4.out.reads.2.2.1 RIy20_w4.out.reads.2.2.2 RIy10_w4.out.reads.1 RIy10_w4.out.reads.2.1 RIy10_w4.out.reads.2.2.1 RIy10_w4.out.reads.2.2.2 HER.out).mono ?_
 rintro e w5 ⟨rfl, hb⟩
 have HZ_w5 := Aside0.mk (show w4.heap.size + 0 ≤ w5.heap.size by have := hb.size; omega)
 have HB_w5 := Aside0.mk (below_then HB_w4.out HB_w4.out.size hb)
 have RIy10_w5 := Aside0.mk (RIy10_w4.out.below hb)
 have BX1_w5 := Aside0.mk (blk_below BX1_w4.out hb)
 have RIy20_w5 := Aside0.mk (RIy20_w4.out.below hb)
 have BX2_w5 := Aside0.mk (blk_below BX2_w4.out hb)
 clear HB_w4 RIy10_w4 BX1_w4 RIy20_w4 BX2_w4
 clear hb
 have hx0_0 : w5.cell? ⟨w3.heap.size, 0, none⟩ = some (.int .i64 r0_0) := (blk_cell BX2_w5.out 0).trans rfl
 have hx0_1 : w5.cell? ⟨w3.heap.size, 1, none⟩ = some (.int .i64 r0_1) := (blk_cell BX2_w5.out 1).trans rfl
 have hx0_2 : w5.cell? ⟨w3.heap.size, 2, none⟩ = some (.slice Ay202 r0_2.length cy202) := (blk_cell BX2_w5.out 2).trans rfl
 have hx0_3 : w5.cell? ⟨w3.heap.size, 3, none⟩ = some (.slice Ay203 r0_3.length cy203) := (blk_cell BX2_w5.out 3).trans rfl
 go_wp2_with (fail)
 clear hx0_0 hx0_1 hx0_2 hx0_3
 with_reducible refine (RelOwn.mark k _ _ _ _ r0_2 r0_3 1 m4a m4 r0_2m r0_3m w _ HB_w5.out RIy20_w5.out (by have := HZ_w1.out; have := HZ_w2.out; have := HZ_w3.out; have := HZ_w4.out; have := HZ_w5.out; omega) HM4A.out HM4B.out).mono ?_
 rintro e w6 ⟨rfl, hI_, hB_, hK_⟩
 have HZ_w6 := Aside0.mk (show w5.heap.size + 0 ≤ w6.heap.size by have := hK_.1; omega)
 have RIy10_w6 := Aside0.mk (RIy10_w5.out.kept hK_ (fun k_ h1_ h2_ => by have := (And.intro HZ_w1.out (And.intro HZ_w2.out (And.intro HZ_w3.out (And.intro HZ_w4.out (And.intro HZ_w5.out trivial))))); omega))
 have BX1_w6 := Aside0.mk ((hK_.2 _ (by have q_ := blk_lt BX1_w5.out; exact q_) (by have := (And.intro HZ_w1.out (And.intro HZ_w2.out (And.intro HZ_w3.out (And.intro HZ_w4.out (And.intro HZ_w5.out trivial))))); omega)).trans BX1_w5.out)
 have BX2_w6 := Aside0.mk ((hK_.2 _ (by have q_ := blk_lt BX2_w5.out; exact q_) (by have := (And.intro HZ_w1.out (And.intro HZ_w2.out (And.intro HZ_w3.out (And.intro HZ_w4.out (And.intro HZ_w5.out trivial))))); omega)).trans BX2_w5.out)
 clear RIy10_w5 BX1_w5 BX2_w5
 have HB_w6 := Aside0.mk hB_
 clear HB_w5 hB_
 have RIy20_w6 := Aside0.mk hI_
 clear hI_ hK_ RIy20_w5
 have hd4 : decide (m4 < 0) = false := decide_eq_false (by have q_ := HN4.out; omega)
 have hx0_0 : w6.cell? ⟨w3.heap.size, 0, none⟩ = some (.int .i64 r0_0) := (blk_cell BX2_w6.out 0).trans rfl
 have hx0_1 : w6.cell? ⟨w3.heap.size, 1, none⟩ = some (.int .i64 r0_1) := (blk_cell BX2_w6.out 1).trans rfl
 have hx0_2 : w6.cell? ⟨w3.heap.size, 2, none⟩ = some (.slice Ay202 r0_2.length cy202) := (blk_cell BX2_w6.out 2).trans rfl
 have hx0_3 : w6.cell? ⟨w3.heap.size, 3, none⟩ = some (.slice Ay203 r0_3.length cy203) := (blk_cell BX2_w6.out 3).trans rfl
 go_wp2_with (fail)
 clear hx0_0 hx0_1 hx0_2 hx0_3
 obtain ⟨e2_, e3_, q1_, q2_, q3_, q4_⟩ := RIy20_w6.out.reads'
 have hq_ := laws_heldRelation.calls k r0_0 r0_1 _ _ r0_2m _ _ r0_3m 1 m4 _ q1_ q2_ q3_ q4_ HH.out
 rw [← e2_, ← e3_] at hq_
 clear e2_ e3_ q1_ q2_ q3_ q4_
 with_reducible refine hq_.mono ?_
 clear hq_
 rintro e w7 ⟨rfl, hb⟩
 have HZ_w7 := Aside0.mk (show w6.heap.size + 0 ≤ w7.heap.size by have := hb.size; omega)
 have HB_w7 := Aside0.mk (below_then HB_w6.out HB_w6.out.size hb)
 have RIy10_w7 := Aside0.mk (RIy10_w6.out.below hb)
 have BX1_w7 := Aside0.mk (blk_below BX1_w6.out hb)
 have BX2_w7 := Aside0.mk (blk_below BX2_w6.out hb)
 have RIy20_w7 := Aside0.mk (RIy20_w6.out.below hb)
 clear HB_w6 RIy10_w6 BX1_w6 BX2_w6 RIy20_w6
 clear hb
 go_wp2_with (fail)
 with_reducible refine (impl_OrderRelation.calls k  r0_0 r0_1 r0_2 r0_3 _ (tab_below HT.out HB_w7.out)  HI.out).mono ?_
 rintro e w8 ⟨vy602, vy603, rfl, hy602, hy603, hb⟩
 obtain ⟨Ay602, cy602, hvy602⟩ := Kd.R_slice hy602
 subst hvy602
 obtain ⟨Ay603, cy603, hvy603⟩ := Kd.S_slice hy603
 subst hvy603
 have HZ_w8 := Aside0.mk (show w7.heap.size + 0 ≤ w8.heap.size by have := hb.size; omega)
 have RIy60_w8 := Aside0.mk (RelOwn.mk_ (base := w.heap.size) HB_w7.out.size hy602 hy603)
 have HB_w8 := Aside0.mk (below_then HB_w7.out HB_w7.out.size hb)
 have RIy10_w8 := Aside0.mk (RIy10_w7.out.below hb)
 have BX1_w8 := Aside0.mk (blk_below BX1_w7.out hb)
 have BX2_w8 := Aside0.mk (blk_below BX2_w7.out hb)
 have RIy20_w8 := Aside0.mk (RIy20_w7.out.below hb)
 clear HB_w7 RIy10_w7 BX1_w7 BX2_w7 RIy20_w7
 clear hy602 hy603 hb
 go_upto_region 14 with (fail)
 have BX5_w9 := Aside0.mk (blk_new w8 (.cells #[.int .i64 r0_0, .int .i64 r0_1, .slice Ay602 r0_2.length cy602, .slice Ay603 r0_3.length cy603] 28))
 have hb := below_alloc (Below.refl w8.heap.size w8) (.cells #[.int .i64 r0_0, .int .i64 r0_1, .slice Ay602 r0_2.length cy602, .slice Ay603 r0_3.length cy603] 28)
 have HZ_w9 := Aside0.mk (show w8.heap.size + 1 ≤ (w8.alloc (.cells #[.int .i64 r0_0, .int .i64 r0_1, .slice Ay602 r0_2.length cy602, .slice Ay603 r0_3.length cy603] 28)).heap.size by simp)
 have HB_w9 := Aside0.mk (below_then HB_w8.out HB_w8.out.size hb)
 have RIy10_w9 := Aside0.mk (RIy10_w8.out.below hb)
 have BX1_w9 := Aside0.mk (blk_below BX1_w8.out hb)
 have BX2_w9 := Aside0.mk (blk_below BX2_w8.out hb)
 have RIy20_w9 := Aside0.mk (RIy20_w8.out.below hb)
 have RIy60_w9 := Aside0.mk (RIy60_w8.out.below hb)
 clear HB_w8 RIy10_w8 BX1_w8 BX2_w8 RIy20_w8 RIy60_w8
 clear hb
 generalize w8.alloc _ = w9 at *
 have hx0_0 : w9.cell? ⟨w8.heap.size, 0, none⟩ = some (.int .i64 r0_0) := (blk_cell BX5_w9.out 0).trans rfl
 have hx0_1 : w9.cell? ⟨w8.heap.size, 1, none⟩ = some (.int .i64 r0_1) := (blk_cell BX5_w9.out 1).trans rfl
 have hx0_2 : w9.cell? ⟨w8.heap.size, 2, none⟩ = some (.slice Ay602 r0_2.length cy602) := (blk_cell BX5_w9.out 2).trans rfl
 have hx0_3 : w9.cell? ⟨w8.heap.size, 3, none⟩ = some (.slice Ay603 r0_3.length cy603) := (blk_cell BX5_w9.out 3).trans rfl
 have hx1_0 : w9.cell? ⟨w1.heap.size, 0, none⟩ = some (.int .i64 r0_0) := (blk_cell BX1_w9.out 0).trans rfl
 have hx1_1 : w9.cell? ⟨w1.heap.size, 1, none⟩ = some (.int .i64 r0_1) := (blk_cell BX1_w9.out 1).trans rfl
 have hx1_2 : w9.cell? ⟨w1.heap.size, 2, none⟩ = some (.slice Ay102 r0_2.length cy102) := (blk_cell BX1_w9.out 2).trans rfl
 have hx1_3 : w9.cell? ⟨w1.heap.size, 3, none⟩ = some (.slice Ay103 r0_3.length cy103) := (blk_cell BX1_w9.out 3).trans rfl
 go_wp2_with (fail)
 clear hx0_0 hx0_1 hx0_2 hx0_3 hx1_0 hx1_1 hx1_2 hx1_3
 with_reducible refine (laws_eqRelation.calls k r0_0 r0_1 _ _ r0_2 _ _ r0_3 r0_0 r0_1 _ _ r0_2 _ _ r0_3 true _ RIy60_w9.out.reads.1 RIy60_w9.out.reads.2.1 RIy60_w9.out.reads.2.2.1 RIy60_w9.out.reads.2.2.2 RIy10_w9.out.reads.1 RIy10_w9.out.reads.2.1 RIy10_w9.out.reads.2.2.1 RIy10_w9.out.reads.2.2.2 HER.out).mono ?_
 rintro e w10 ⟨rfl, hb⟩
 have HZ_w10 := Aside0.mk (show w9.heap.size + 0 ≤ w10.heap.size by have := hb.size; omega)
 have HB_w10 := Aside0.mk (below_then HB_w9.out HB_w9.out.size hb)
 have RIy10_w10 := Aside0.mk (RIy10_w9.out.below hb)
 have BX1_w10 := Aside0.mk (blk_below BX1_w9.out hb)
 have BX2_w10 := Aside0.mk (blk_below BX2_w9.out hb)
 have RIy20_w10 := Aside0.mk (RIy20_w9.out.below hb)
 have RIy60_w10 := Aside0.mk (RIy60_w9.out.below hb)
 have BX5_w10 := Aside0.mk (blk_below BX5_w9.out hb)
 clear HB_w9 RIy10_w9 BX1_w9 BX2_w9 RIy20_w9 RIy60_w9 BX5_w9
 clear hb
 have hx0_0 : w10.cell? ⟨w3.heap.size, 0, none⟩ = some (.int .i64 r0_0) := (blk_cell BX2_w10.out 0).trans rfl
 have hx0_1 : w10.cell? ⟨w3.heap.size, 1, none⟩ = some (.int .i64 r0_1) := (blk_cell BX2_w10.out 1).trans rfl
 have hx0_2 : w10.cell? ⟨w3.heap.size, 2, none⟩ = some (.slice Ay202 r0_2.length cy202) := (blk_cell BX2_w10.out 2).trans rfl
 have hx0_3 : w10.cell? ⟨w3.heap.size, 3, none⟩ = some (.slice Ay203 r0_3.length cy203) := (blk_cell BX2_w10.out 3).trans rfl
 go_wp2_with (fail)
 clear hx0_0 hx0_1 hx0_2 hx0_3
 obtain ⟨e2_, e3_, q1_, q2_, q3_, q4_⟩ := RIy20_w10.out.reads'
 have hq_ := laws_heldRelation.calls k r0_0 r0_1 _ _ r0_2m _ _ r0_3m 1 m4 _ q1_ q2_ q3_ q4_ HH.out
 rw [← e2_, ← e3_] at hq_
 clear e2_ e3_ q1_ q2_ q3_ q4_
 with_reducible refine hq_.mono ?_
 clear hq_
 rintro e w11 ⟨rfl, hb⟩
 have HZ_w11 := Aside0.mk (show w10.heap.size + 0 ≤ w11.heap.size by have := hb.size; omega)
 have HB_w11 := Aside0.mk (below_then HB_w10.out HB_w10.out.size hb)
 have RIy10_w11 := Aside0.mk (RIy10_w10.out.below hb)
 have BX1_w11 := Aside0.mk (blk_below BX1_w10.out hb)
 have BX2_w11 := Aside0.mk (blk_below BX2_w10.out hb)
 have RIy20_w11 := Aside0.mk (RIy20_w10.out.below hb)
 have RIy60_w11 := Aside0.mk (RIy60_w10.out.below hb)
 have BX5_w11 := Aside0.mk (blk_below BX5_w10.out hb)
 clear HB_w10 RIy10_w10 BX1_w10 BX2_w10 RIy20_w10 RIy60_w10 BX5_w10
 clear hb
 go_wp2
 go_ret
 exact ⟨rfl, HB_w11.out⟩
theorem laws_FnExactOrderRelation.calls (k : Nat)  (w : World) (htab : TabOK w)  (h : laws_FnExactOrderRelation.f k  = some true) :
  Calls Tryd.prog 11 #[] w fun e w' => e = .returned (.bool true) ∧ Below w.heap.size w w' := by
 unfold laws_FnExactOrderRelation.f at h
 obtain ⟨⟨r0_0, r0_1, r0_2, r0_3⟩, hS, h⟩ := Option.bind_eq_some_iff.mp h
 dsimp only at h
 by_cases hI : impl_OrderRelation.f k  = some (r0_0, r0_1, r0_2, r0_3)
 case neg => rw [if_neg hI] at h; cases h
 rw [if_pos hI] at h
 by_cases her : laws_eqRelation.f k r0_0 r0_1 r0_2 r0_3 r0_0 r0_1 r0_2 r0_3 = some true
 case neg => rw [if_neg her] at h; cases h
 rw [if_pos her] at h
 obtain ⟨⟨m4a, r0_2m⟩, hm4a, h⟩ := Option.bind_eq_some_iff.mp h
 dsimp only at h
 obtain ⟨⟨m4, r0_3m⟩, hm4b, h⟩ := Option.bind_eq_some_iff.mp h
 dsimp only at h
 by_cases hn4 : m4 < 0
 case pos => rw [if_pos hn4] at h; cases h
 rw [if_neg hn4] at h
 by_cases hh : laws_heldRelation.f k r0_0 r0_1 r0_2m r0_3m 1 = some m4
 case neg => rw [if_neg hh] at h; cases h
 rw [if_pos hh] at h
 exact laws_FnExactOrderRelation.main k  w htab  r0_0 r0_1 r0_2 r0_3 m4a r0_2m m4 r0_3m hS hI her hm4a hm4b hn4 hh 
end Go.Proofs.YtbkcllfgolmloaaDoor.X

namespace Go.Proofs.YtbkcllfgolmloaaDoor.Pure
open Go.RowKit Go.Proofs.YtbkcllfgolmloaaDoor.X Go.Proofs.YtbkcllfgolmloaaDoorW.PrintWords Go.Proofs.YtbkcllfgolmloaaDoorW.PrintLast
set_option linter.unusedVariables false
set_option linter.unusedSimpArgs false
def relOrderRelation : Int × Int × List Bool × List (List Int) := (impl_OrderRelation.f 2000).getD (0, 0, [], [])
set_option maxRecDepth 100000 in
theorem lawOrderRelation : laws_FnExactOrderRelation.f 2000 = some true := by
 have hI : impl_OrderRelation.f 2000 = some (relOrderRelation.1, relOrderRelation.2.1, relOrderRelation.2.2.1, relOrderRelation.2.2.2) := by decide +kernel
 have hS : spec_OrderRelation.f 2000 = some (relOrderRelation.1, relOrderRelation.2.1, relOrderRelation.2.2.1, relOrderRelation.2.2.2) := by decide +kernel
 have hE : laws_eqRelation.f 2000 relOrderRelation.1 relOrderRelation.2.1 relOrderRelation.2.2.1 relOrderRelation.2.2.2 relOrderRelation.1 relOrderRelation.2.1 relOrderRelation.2.2.1 relOrderRelation.2.2.2 = some true := by decide +kernel
 have h1 : laws_markBoolS.f 2000 relOrderRelation.2.2.1 1 = some (((1 + relOrderRelation.2.2.1.length : Nat) : Int), mB 1 relOrderRelation.2.2.1.length) := by decide +kernel
 have h2 : laws_markInt64SS.f 2000 relOrderRelation.2.2.2 ((1 + relOrderRelation.2.2.1.length : Nat) : Int) = some (((1 + relOrderRelation.2.2.1.length + sumL relOrderRelation.2.2.2 : Nat) : Int), mII (1 + relOrderRelation.2.2.1.length) relOrderRelation.2.2.2) := by decide +kernel
 have h3 : laws_heldRelation.f 2000 relOrderRelation.1 relOrderRelation.2.1 (mB 1 relOrderRelation.2.2.1.length) (mII (1 + relOrderRelation.2.2.1.length) relOrderRelation.2.2.2) 1 = some ((1 + relOrderRelation.2.2.1.length + sumL relOrderRelation.2.2.2 : Nat) : Int) := by decide +kernel
 unfold laws_FnExactOrderRelation.f
 rw [hS]
 simp only [Option.bind_some]
 rw [if_pos hI, if_pos hE, h1]
 simp only [Option.bind_some]
 rw [h2]
 simp only [Option.bind_some]
 rw [if_neg (by omega), if_pos h3]
theorem FnExactOrderRelation : ∃ k, laws_FnExactOrderRelation.f k = some true := ⟨_, lawOrderRelation⟩
end Go.Proofs.YtbkcllfgolmloaaDoor.Pure

-- Written by a program of this claim's author.
namespace Go.Proofs.YtbkcllfgolmloaaDoor.fnExactOrderRelation
open Go.ChangeShapes Go.WideShapes Go.ChangeAt Go.RowKit
open Go.ChangeMaps (open_string shut_string)
set_option linter.unusedVariables false
theorem own : ownKnob Tryd.prog.godebug = none := by kernel_rfl
set_option maxRecDepth 100000 in
theorem lifted (os : Os) (started : os.Started) (H : Type) (enc : TypeId × Value → H) :
  ReturnsInHanded {} Tryd.checked os 11 .any (fun w args => (Rows.fnExactOrderRelationSpec.pre enc Tryd.prog Tryd.f11 Rows.fnExactOrderRelationRow.domain false w args ∧ laidMet Tryd.prog X.laid3 w) ∧ sizedMet enc Tryd.prog Tryd.f11 (OpenSpec.ofChange Rows.fnExactOrderRelationSpec) false w args) (Rows.fnExactOrderRelationSpec.post enc Tryd.prog Tryd.f11 false true false false) := by
 refine returnsInHanded_of_change_and (C := Tryd.checked) (X := fun w _ => laidMet Tryd.prog X.laid3 w) (fun _ _ _ hh h => h.of_heap hh) own started (by kernel_rfl) Tryd.func11
  (ChangeSpec.witness_at (enc := enc) (C := Tryd.checked) (os := os) (X := fun w _ => laidMet Tryd.prog X.laid3 w) false (X.laidWorld os) #[] 8 rfl (by kernel_rfl) (by kernel_rfl) (by kernel_rfl) (by kernel_rfl) (by kernel_rfl) (X.laidWorld_met os _)) ?_
 intro W base args ds gs before hval0 hW _ hsz0 hL _
 have hval : ∀ (j : Nat) t v, Tryd.f11.params[j]? = some t → args[j]? = some v → Value.okWide Tryd.prog W .any base t v := hval0
 have hW' := hW
 obtain ⟨p, q, hA0, hV, rfl, hfz, hnd⟩ := hW
 have hA : DataW.TrodAll enc Tryd.prog W 0 (fun _ => true) true Tryd.f11.params.toList args.toList ds p := hA0
 rw [Tryd.params11] at hA hval
 obtain ⟨rfl, rfl, rfl⟩ := trodAll_none hA
 obtain ⟨rfl, rfl⟩ := trodVars_none hV
 clear hA0 hval0 hsz0
 obtain ⟨n_, hn_⟩ := Pure.FnExactOrderRelation  
 refine (X.laws_FnExactOrderRelation.calls n_  W (X.tabOK_of hL)  hn_).mono fun e W' ⟨he, bel⟩ => ?_
 subst he
 exact ⟨_, rfl, _, _, _, [], _, [], hW', trodAll_mk1 (shut_bool Tryd.underlying4 _), trodAll_mk0, rfl, bel.frame _, fun h => by cases h⟩
theorem over : Rows.fnExactOrderRelationRow.holds Tryd.pinned (OpenSpec.ofChange Rows.fnExactOrderRelationSpec) :=
 OpenClaim.holds_of_wide 11 Tryd.f11 rfl rfl rfl rfl rfl rfl rfl ⟨rfl, rfl, rfl, rfl, rfl⟩ rfl rfl rfl rfl rfl (by kernel_rfl) Tryd.func11 (by kernel_rfl)
  (of_decide_eq_true (by kernel_rfl)) (by unfold Func.isWrapper; first | (rw [if_pos (by decide +kernel)]; kernel_rfl) | (rw [if_neg (by decide +kernel)]; exact ⟨rfl, rfl⟩))
  (fun os started H enc _ => lifted os started H enc)
set_option maxRecDepth 100000 in
theorem proved : Rows.FnExactOrderRelationCardSaid :=
 Claim7.holds_tied_plain_at .later [] Rows.fnExactOrderRelationCard.laidKinds true (true, "f51c4824e2bc35f367135000083f29c5ec74c549effb7d54f23c468ffd466c0d") false
  over (fun _ h => by cases h) (by kernel_rfl) (fun _ h => by cases h) fnExactOrderRelation_row_tie rfl ⟨rfl, rfl⟩ (by kernel_rfl) rfl
  (fun f fn hf hfn => by
   obtain rfl : f = 11 := Option.some.inj ((show Tryd.prog.funcNamed "loop.example/g01168/laws.FnExactOrderRelation" = some 11 by kernel_rfl).symm.trans hf) |>.symm
   obtain rfl : fn = Tryd.f11 := (Option.some.inj (Tryd.func11.symm.trans hfn)).symm
   refine ⟨by kernel_rfl, fun j t ht => ?_⟩
   have hall : (Tryd.f11.params.toList.all fun t => !Tryd.prog.wantsStandIn t) = true := by kernel_rfl
   have := List.all_eq_true.1 hall t (Array.mem_def.1 (Array.mem_of_getElem? ht))
   exact (show Tryd.prog.wantsStandIn t = false by simpa using this))
  (by kernel_rfl)
#print axioms proved
end Go.Proofs.YtbkcllfgolmloaaDoor.fnExactOrderRelation
namespace Go.Proofs.YtbkcllfgolmloaaDoor
/-- The row, under a short name, for the claim. -/
theorem fnExactOrderRelation_holds : Rows.FnExactOrderRelationCardSaid := fnExactOrderRelation.proved
end Go.Proofs.YtbkcllfgolmloaaDoor

-- Written by a program of this claim's author, out of the translation.
namespace Go.Proofs.YtbkcllfgolmloaaDoor.X
open Go.RowKit Go.Proofs.YtbkcllfgolmloaaDoorW.PrintWords Go.Proofs.YtbkcllfgolmloaaDoorW.PrintLast Go.Proofs.YtbkcllfgolmloaaDoorW.PrintMore
attribute [local go_sem] max2_int min2_int max_two min_two max_three min_three max_four min_four   -- for this text's walks alone
set_option linter.unusedVariables false
set_option linter.unusedSimpArgs false
theorem C_ints {W : World} {g T : Nat} {l : List Int} (hb : W.heap[g]? = some (.cells (l.map (Value.int .i64)).toArray T (0, 0))) (hl : l.length ≤ 1000) : (Kd.int .i64).C W (some ⟨g, 0, none⟩) l.length l := by
 refine ⟨rfl, by omega, fun _ => ⟨_, rfl, fun j p hj => ⟨[.int .i64 p], rfl, rfl, fun i u hu => ?_⟩⟩⟩
 have hi : i = 0 := by have := (List.getElem?_eq_some_iff.1 hu).1; simp at this; omega
 subst hi
 have hu' : Value.int .i64 p = u := by simpa using hu
 subst hu'
 have h1 := blk_cell hb j
 rw [show (Addr.add ⟨g, 0, none⟩ (j * (Kd.int .i64).sz + 0)) = ⟨g, j, none⟩ by simp [Addr.add, show (Kd.int .i64).sz = 1 from rfl]; omega]
 rw [h1]
 simp [hj]
theorem C_bools {W : World} {g T : Nat} {l : List Bool} (hb : W.heap[g]? = some (.cells (l.map Value.bool).toArray T (0, 0))) (hl : l.length ≤ 1000) : Kd.bool.C W (some ⟨g, 0, none⟩) l.length l := by
 refine ⟨rfl, by omega, fun _ => ⟨_, rfl, fun j p hj => ⟨[.bool p], rfl, rfl, fun i u hu => ?_⟩⟩⟩
 have hi : i = 0 := by have := (List.getElem?_eq_some_iff.1 hu).1; simp at this; omega
 subst hi
 have hu' : Value.bool p = u := by simpa using hu
 subst hu'
 have h1 := blk_cell hb j
 rw [show (Addr.add ⟨g, 0, none⟩ (j * Kd.bool.sz + 0)) = ⟨g, j, none⟩ by simp [Addr.add, show Kd.bool.sz = 1 from rfl]; omega]
 rw [h1]
 simp [hj]
theorem C_rows {W : World} {g T : Nat} {ps : List (Nat × List Int)} (hb : W.heap[g]? = some (.cells (ps.map fun p => Value.slice (some ⟨p.1, 0, none⟩) p.2.length p.2.length).toArray T (0, 0))) (hl : ps.length ≤ 1000) (hC : ∀ p ∈ ps, (Kd.int .i64).C W (some ⟨p.1, 0, none⟩) p.2.length p.2) :
  (Kd.slice 2 (Kd.int .i64)).C W (some ⟨g, 0, none⟩) (ps.map Prod.snd).length (ps.map Prod.snd) := by
 refine ⟨rfl, by simp; omega, fun _ => ⟨_, rfl, fun j p hj => ?_⟩⟩
 rw [List.getElem?_map] at hj
 cases e : ps[j]? with
 | none => rw [e] at hj; cases hj
 | some q =>
  rw [e] at hj
  obtain rfl := Option.some.inj hj
  refine ⟨[.slice (some ⟨q.1, 0, none⟩) q.2.length q.2.length], rfl, ⟨_, _, rfl, Nat.le_refl _, hC q (List.mem_of_getElem? e)⟩, fun i u hu => ?_⟩
  have hi : i = 0 := by have := (List.getElem?_eq_some_iff.1 hu).1; simp at this; omega
  subst hi
  have hu' : Value.slice (some ⟨q.1, 0, none⟩) q.2.length q.2.length = u := by simpa using hu
  subst hu'
  have h1 := blk_cell hb j
  rw [show (Addr.add ⟨g, 0, none⟩ (j * (Kd.slice 2 (Kd.int .i64)).sz + 0)) = ⟨g, j, none⟩ by simp [Addr.add, show (Kd.slice 2 (Kd.int .i64)).sz = 1 from rfl]; omega]
  rw [h1]
  simp [e]
theorem fill_endR' {w W : World} {va vr : Value} {bs : List Bool} {rs : List (List Int)} {base : Nat} (hR : Kd.bool.R 4 W base (fun _ => True) va bs) (hS : Kd.S (Kd.slice 2 (Kd.int .i64)) 55 W base (fun _ => True) vr rs) (hbase : w.heap.size ≤ base) (hb : Below w.heap.size w W) {b : Nat} {cs : Array Value} (h : W.heap[b]? = some (.cells cs 28 (0, 0))) (hbb : w.heap.size ≤ b) (x y : Value) :
  Kd.bool.R 4 (set4 W b x y va vr) w.heap.size (fun _ => True) va bs ∧ Kd.S (Kd.slice 2 (Kd.int .i64)) 55 (set4 W b x y va vr) w.heap.size (fun _ => True) vr rs ∧ Below w.heap.size w (set4 W b x y va vr) :=
 ⟨R_set4 (Kd.R_lower hR hbase) h (by decide) _ _ _ _, S_set4 (Kd.S_lower hS hbase) h (by decide) _ _ _ _, below_set4 hb hbb _ _ _ _⟩
def spec_SuccessorRelation.f (k : Nat) : Option (Int × Int × List Bool × List (List Int)) := spec_l02Known.f k [false, false, true, false, true] [[0, 0, 1], [0, 4, 1], [0, 3, 2], [0, 1, 3], [0, 2, 4], [1, 0, 1], [1, 4, 1], [1, 3, 2], [2, 1, 2], [3, 1, 3], [3, 2, 4]]
set_option maxHeartbeats 8000000 in
set_option maxRecDepth 100000 in
theorem spec_SuccessorRelation.calls (k : Nat) (r1 : Int) (r2 : Int) (r3 : List Bool) (r4 : List (List Int)) (w : World) (h : spec_SuccessorRelation.f k = some (r1, r2, r3, r4)) :
  Calls Tryd.prog 34 #[] w fun e w' => ∃ v2_ v3_ : Value, e = .returned (.agg #[.int .i64 r1, .int .i64 r2, v2_, v3_]) ∧ Kd.R Kd.bool 4 w' w.heap.size (fun _ => True) v2_ r3 ∧ Kd.S (Kd.slice 2 (Kd.int .i64)) 55 w' w.heap.size (fun _ => True) v3_ r4 ∧ Below w.heap.size w w' := by
 have H := Aside0.mk (show spec_l02Known.f k [false, false, true, false, true] [[0, 0, 1], [0, 4, 1], [0, 3, 2], [0, 1, 3], [0, 2, 4], [1, 0, 1], [1, 4, 1], [1, 3, 2], [2, 1, 2], [3, 1, 3], [3, 2, 4]] = some (r1, r2, r3, r4) from h)
 clear h
 suffices H0 : True by
  obtain ⟨w0, hw0⟩ : ∃ w0, w0 = w.alloc (.cells #[.int .i64 0, .int .i64 0, .slice none 0 0, .slice none 0 0] 28) := ⟨_, rfl⟩
  have HB0 := Aside0.mk (show Below w.heap.size w w0 by rw [hw0]; exact below_alloc (Below.refl _ _) _)
  have HBR := Aside0.mk (show w0.heap[w.heap.size]? = some (.cells #[.int .i64 0, .int .i64 0, .slice none 0 0, .slice none 0 0] 28 (0, 0)) by rw [hw0]; exact blk_new w _)
  have hsz : w.heap.size + 1 = w0.heap.size := by rw [hw0]; simp
  obtain ⟨W, hW⟩ : ∃ W, W = (((((((((((((w0.alloc (.cells #[.bool false, .bool false, .bool true, .bool false, .bool true] 4)).alloc (.cells #[.int .i64 0, .int .i64 0, .int .i64 1] 2)).alloc (.cells #[.int .i64 0, .int .i64 4, .int .i64 1] 2)).alloc (.cells #[.int .i64 0, .int .i64 3, .int .i64 2] 2)).alloc (.cells #[.int .i64 0, .int .i64 1, .int .i64 3] 2)).alloc (.cells #[.int .i64 0, .int .i64 2, .int .i64 4] 2)).alloc (.cells #[.int .i64 1, .int .i64 0, .int .i64 1] 2)).alloc (.cells #[.int .i64 1, .int .i64 4, .int .i64 1] 2)).alloc (.cells #[.int .i64 1, .int .i64 3, .int .i64 2] 2)).alloc (.cells #[.int .i64 2, .int .i64 1, .int .i64 2] 2)).alloc (.cells #[.int .i64 3, .int .i64 1, .int .i64 3] 2)).alloc (.cells #[.int .i64 3, .int .i64 2, .int .i64 4] 2)).alloc (.cells #[.slice (some ⟨w0.heap.size + 1, 0, none⟩) 3 3, .slice (some ⟨w0.heap.size + 1 + 1, 0, none⟩) 3 3, .slice (some ⟨w0.heap.size + 1 + 1 + 1, 0, none⟩) 3 3, .slice (some ⟨w0.heap.size + 1 + 1 + 1 + 1, 0, none⟩) 3 3, .slice (some ⟨w0.heap.size + 1 + 1 + 1 + 1 + 1, 0, none⟩) 3 3, .slice (some ⟨w0.heap.size + 1 + 1 + 1 + 1 + 1 + 1, 0, none⟩) 3 3, .slice (some ⟨w0.heap.size + 1 + 1 + 1 + 1 + 1 + 1 + 1, 0, none⟩) 3 3, .slice (some ⟨w0.heap.size + 1 + 1 + 1 + 1 + 1 + 1 + 1 + 1, 0, none⟩) 3 3, .slice (some ⟨w0.heap.size + 1 + 1 + 1 + 1 + 1 + 1 + 1 + 1 + 1, 0, none⟩) 3 3, .slice (some ⟨w0.heap.size + 1 + 1 + 1 + 1 + 1 + 1 + 1 + 1 + 1 + 1, 0, none⟩) 3 3, .slice (some ⟨w0.heap.size + 1 + 1 + 1 + 1 + 1 + 1 + 1 + 1 + 1 + 1 + 1, 0, none⟩) 3 3] 55)) := ⟨_, rfl⟩
  have HBW := Aside0.mk (show Below w0.heap.size w0 W by rw [hW]; exact below_alloc (below_alloc (below_alloc (below_alloc (below_alloc (below_alloc (below_alloc (below_alloc (below_alloc (below_alloc (below_alloc (below_alloc (below_alloc (Below.refl _ _) _) _) _) _) _) _) _) _) _) _) _) _) _)
  have b0 : W.heap[w0.heap.size]? = some (.cells #[.bool false, .bool false, .bool true, .bool false, .bool true] 4 (0, 0)) := by rw [hW]; have q_ := blk_alloc (blk_alloc (blk_alloc (blk_alloc (blk_alloc (blk_alloc (blk_alloc (blk_alloc (blk_alloc (blk_alloc (blk_alloc (blk_alloc (blk_new w0 (.cells #[.bool false, .bool false, .bool true, .bool false, .bool true] 4)) (.cells #[.int .i64 0, .int .i64 0, .int .i64 1] 2)) (.cells #[.int .i64 0, .int .i64 4, .int .i64 1] 2)) (.cells #[.int .i64 0, .int .i64 3, .int .i64 2] 2)) (.cells #[.int .i64 0, .int .i64 1, .int .i64 3] 2)) (.cells #[.int .i64 0, .int .i64 2, .int .i64 4] 2)) (.cells #[.int .i64 1, .int .i64 0, .int .i64 1] 2)) (.cells #[.int .i64 1, .int .i64 4, .int .i64 1] 2)) (.cells #[.int .i64 1, .int .i64 3, .int .i64 2] 2)) (.cells #[.int .i64 2, .int .i64 1, .int .i64 2] 2)) (.cells #[.int .i64 3, .int .i64 1, .int .i64 3] 2)) (.cells #[.int .i64 3, .int .i64 2, .int .i64 4] 2)) (.cells #[.slice (some ⟨w0.heap.size + 1, 0, none⟩) 3 3, .slice (some ⟨w0.heap.size + 1 + 1, 0, none⟩) 3 3, .slice (some ⟨w0.heap.size + 1 + 1 + 1, 0, none⟩) 3 3, .slice (some ⟨w0.heap.size + 1 + 1 + 1 + 1, 0, none⟩) 3 3, .slice (some ⟨w0.heap.size + 1 + 1 + 1 + 1 + 1, 0, none⟩) 3 3, .slice (some ⟨w0.heap.size + 1 + 1 + 1 + 1 + 1 + 1, 0, none⟩) 3 3, .slice (some ⟨w0.heap.size + 1 + 1 + 1 + 1 + 1 + 1 + 1, 0, none⟩) 3 3, .slice (some ⟨w0.heap.size + 1 + 1 + 1 + 1 + 1 + 1 + 1 + 1, 0, none⟩) 3 3, .slice (some ⟨w0.heap.size + 1 + 1 + 1 + 1 + 1 + 1 + 1 + 1 + 1, 0, none⟩) 3 3, .slice (some ⟨w0.heap.size + 1 + 1 + 1 + 1 + 1 + 1 + 1 + 1 + 1 + 1, 0, none⟩) 3 3, .slice (some ⟨w0.heap.size + 1 + 1 + 1 + 1 + 1 + 1 + 1 + 1 + 1 + 1 + 1, 0, none⟩) 3 3] 55); simpa using q_
  have b1 : W.heap[w0.heap.size + 1]? = some (.cells #[.int .i64 0, .int .i64 0, .int .i64 1] 2 (0, 0)) := by rw [hW]; have q_ := blk_alloc (blk_alloc (blk_alloc (blk_alloc (blk_alloc (blk_alloc (blk_alloc (blk_alloc (blk_alloc (blk_alloc (blk_alloc (blk_new (w0.alloc (.cells #[.bool false, .bool false, .bool true, .bool false, .bool true] 4)) (.cells #[.int .i64 0, .int .i64 0, .int .i64 1] 2)) (.cells #[.int .i64 0, .int .i64 4, .int .i64 1] 2)) (.cells #[.int .i64 0, .int .i64 3, .int .i64 2] 2)) (.cells #[.int .i64 0, .int .i64 1, .int .i64 3] 2)) (.cells #[.int .i64 0, .int .i64 2, .int .i64 4] 2)) (.cells #[.int .i64 1, .int .i64 0, .int .i64 1] 2)) (.cells #[.int .i64 1, .int .i64 4, .int .i64 1] 2)) (.cells #[.int .i64 1, .int .i64 3, .int .i64 2] 2)) (.cells #[.int .i64 2, .int .i64 1, .int .i64 2] 2)) (.cells #[.int .i64 3, .int .i64 1, .int .i64 3] 2)) (.cells #[.int .i64 3, .int .i64 2, .int .i64 4] 2)) (.cells #[.slice (some ⟨w0.heap.size + 1, 0, none⟩) 3 3, .slice (some ⟨w0.heap.size + 1 + 1, 0, none⟩) 3 3, .slice (some ⟨w0.heap.size + 1 + 1 + 1, 0, none⟩) 3 3, .slice (some ⟨w0.heap.size + 1 + 1 + 1 + 1, 0, none⟩) 3 3, .slice (some ⟨w0.heap.size + 1 + 1 + 1 + 1 + 1, 0, none⟩) 3 3, .slice (some ⟨w0.heap.size + 1 + 1 + 1 + 1 + 1 + 1, 0, none⟩) 3 3, .slice (some ⟨w0.heap.size + 1 + 1 + 1 + 1 + 1 + 1 + 1, 0, none⟩) 3 3, .slice (some ⟨w0.heap.size + 1 + 1 + 1 + 1 + 1 + 1 + 1 + 1, 0, none⟩) 3 3, .slice (some ⟨w0.heap.size + 1 + 1 + 1 + 1 + 1 + 1 + 1 + 1 + 1, 0, none⟩) 3 3, .slice (some ⟨w0.heap.size + 1 + 1 + 1 + 1 + 1 + 1 + 1 + 1 + 1 + 1, 0, none⟩) 3 3, .slice (some ⟨w0.heap.size + 1 + 1 + 1 + 1 + 1 + 1 + 1 + 1 + 1 + 1 + 1, 0, none⟩) 3 3] 55); simpa using q_
  have b2 : W.heap[w0.heap.size + 1 + 1]? = some (.cells #[.int .i64 0, .int .i64 4, .int .i64 1] 2 (0, 0)) := by rw [hW]; have q_ := blk_alloc (blk_alloc (blk_alloc (blk_alloc (blk_alloc (blk_alloc (blk_alloc (blk_alloc (blk_alloc (blk_alloc (blk_new ((w0.alloc (.cells #[.bool false, .bool false, .bool true, .bool false, .bool true] 4)).alloc (.cells #[.int .i64 0, .int .i64 0, .int .i64 1] 2)) (.cells #[.int .i64 0, .int .i64 4, .int .i64 1] 2)) (.cells #[.int .i64 0, .int .i64 3, .int .i64 2] 2)) (.cells #[.int .i64 0, .int .i64 1, .int .i64 3] 2)) (.cells #[.int .i64 0, .int .i64 2, .int .i64 4] 2)) (.cells #[.int .i64 1, .int .i64 0, .int .i64 1] 2)) (.cells #[.int .i64 1, .int .i64 4, .int .i64 1] 2)) (.cells #[.int .i64 1, .int .i64 3, .int .i64 2] 2)) (.cells #[.int .i64 2, .int .i64 1, .int .i64 2] 2)) (.cells #[.int .i64 3, .int .i64 1, .int .i64 3] 2)) (.cells #[.int .i64 3, .int .i64 2, .int .i64 4] 2)) (.cells #[.slice (some ⟨w0.heap.size + 1, 0, none⟩) 3 3, .slice (some ⟨w0.heap.size + 1 + 1, 0, none⟩) 3 3, .slice (some ⟨w0.heap.size + 1 + 1 + 1, 0, none⟩) 3 3, .slice (some ⟨w0.heap.size + 1 + 1 + 1 + 1, 0, none⟩) 3 3, .slice (some ⟨w0.heap.size + 1 + 1 + 1 + 1 + 1, 0, none⟩) 3 3, .slice (some ⟨w0.heap.size + 1 + 1 + 1 + 1 + 1 + 1, 0, none⟩) 3 3, .slice (some ⟨w0.heap.size + 1 + 1 + 1 + 1 + 1 + 1 + 1, 0, none⟩) 3 3, .slice (some ⟨w0.heap.size + 1 + 1 + 1 + 1 + 1 + 1 + 1 + 1, 0, none⟩) 3 3, .slice (some ⟨w0.heap.size + 1 + 1 + 1 + 1 + 1 + 1 + 1 + 1 + 1, 0, none⟩) 3 3, .slice (some ⟨w0.heap.size + 1 + 1 + 1 + 1 + 1 + 1 + 1 + 1 + 1 + 1, 0, none⟩) 3 3, .slice (some ⟨w0.heap.size + 1 + 1 + 1 + 1 + 1 + 1 + 1 + 1 + 1 + 1 + 1, 0, none⟩) 3 3] 55); simpa using q_
  have b3 : W.heap[w0.heap.size + 1 + 1 + 1]? = some (.cells #[.int .i64 0, .int .i64 3, .int .i64 2] 2 (0, 0)) := by rw [hW]; have q_ := blk_alloc (blk_alloc (blk_alloc (blk_alloc (blk_alloc (blk_alloc (blk_alloc (blk_alloc (blk_alloc (blk_new (((w0.alloc (.cells #[.bool false, .bool false, .bool true, .bool false, .bool true] 4)).alloc (.cells #[.int .i64 0, .int .i64 0, .int .i64 1] 2)).alloc (.cells #[.int .i64 0, .int .i64 4, .int .i64 1] 2)) (.cells #[.int .i64 0, .int .i64 3, .int .i64 2] 2)) (.cells #[.int .i64 0, .int .i64 1, .int .i64 3] 2)) (.cells #[.int .i64 0, .int .i64 2, .int .i64 4] 2)) (.cells #[.int .i64 1, .int .i64 0, .int .i64 1] 2)) (.cells #[.int .i64 1, .int .i64 4, .int .i64 1] 2)) (.cells #[.int .i64 1, .int .i64 3, .int .i64 2] 2)) (.cells #[.int .i64 2, .int .i64 1, .int .i64 2] 2)) (.cells #[.int .i64 3, .int .i64 1, .int .i64 3] 2)) (.cells #[.int .i64 3, .int .i64 2, .int .i64 4] 2)) (.cells #[.slice (some ⟨w0.heap.size + 1, 0, none⟩) 3 3, .slice (some ⟨w0.heap.size + 1 + 1, 0, none⟩) 3 3, .slice (some ⟨w0.heap.size + 1 + 1 + 1, 0, none⟩) 3 3, .slice (some ⟨w0.heap.size + 1 + 1 + 1 + 1, 0, none⟩) 3 3, .slice (some ⟨w0.heap.size + 1 + 1 + 1 + 1 + 1, 0, none⟩) 3 3, .slice (some ⟨w0.heap.size + 1 + 1 + 1 + 1 + 1 + 1, 0, none⟩) 3 3, .slice (some ⟨w0.heap.size + 1 + 1 + 1 + 1 + 1 + 1 + 1, 0, none⟩) 3 3, .slice (some ⟨w0.heap.size + 1 + 1 + 1 + 1 + 1 + 1 + 1 + 1, 0, none⟩) 3 3, .slice (some ⟨w0.heap.size + 1 + 1 + 1 + 1 + 1 + 1 + 1 + 1 + 1, 0, none⟩) 3 3, .slice (some ⟨w0.heap.size + 1 + 1 + 1 + 1 + 1 + 1 + 1 + 1 + 1 + 1, 0, none⟩) 3 3, .slice (some ⟨w0.heap.size + 1 + 1 + 1 + 1 + 1 + 1 + 1 + 1 + 1 + 1 + 1, 0, none⟩) 3 3] 55); simpa using q_
  have b4 : W.heap[w0.heap.size + 1 + 1 + 1 + 1]? = some (.cells #[.int .i64 0, .int .i64 1, .int .i64 3] 2 (0, 0)) := by rw [hW]; have q_ := blk_alloc (blk_alloc (blk_alloc (blk_alloc (blk_alloc (blk_alloc (blk_alloc (blk_alloc (blk_new ((((w0.alloc (.cells #[.bool false, .bool false, .bool true, .bool false, .bool true] 4)).alloc (.cells #[.int .i64 0, .int .i64 0, .int .i64 1] 2)).alloc (.cells #[.int .i64 0, .int .i64 4, .int .i64 1] 2)).alloc (.cells #[.int .i64 0, .int .i64 3, .int .i64 2] 2)) (.cells #[.int .i64 0, .int .i64 1, .int .i64 3] 2)) (.cells #[.int .i64 0, .int .i64 2, .int .i64 4] 2)) (.cells #[.int .i64 1, .int .i64 0, .int .i64 1] 2)) (.cells #[.int .i64 1, .int .i64 4, .int .i64 1] 2)) (.cells #[.int .i64 1, .int .i64 3, .int .i64 2] 2)) (.cells #[.int .i64 2, .int .i64 1, .int .i64 2] 2)) (.cells #[.int .i64 3, .int .i64 1, .int .i64 3] 2)) (.cells #[.int .i64 3, .int .i64 2, .int .i64 4] 2)) (.cells #[.slice (some ⟨w0.heap.size + 1, 0, none⟩) 3 3, .slice (some ⟨w0.heap.size + 1 + 1, 0, none⟩) 3 3, .slice (some ⟨w0.heap.size + 1 + 1 + 1, 0, none⟩) 3 3, .slice (some ⟨w0.heap.size + 1 + 1 + 1 + 1, 0, none⟩) 3 3, .slice (some ⟨w0.heap.size + 1 + 1 + 1 + 1 + 1, 0, none⟩) 3 3, .slice (some ⟨w0.heap.size + 1 + 1 + 1 + 1 + 1 + 1, 0, none⟩) 3 3, .slice (some ⟨w0.heap.size + 1 + 1 + 1 + 1 + 1 + 1 + 1, 0, none⟩) 3 3, .slice (some ⟨w0.heap.size + 1 + 1 + 1 + 1 + 1 + 1 + 1 + 1, 0, none⟩) 3 3, .slice (some ⟨w0.heap.size + 1 + 1 + 1 + 1 + 1 + 1 + 1 + 1 + 1, 0, none⟩) 3 3, .slice (some ⟨w0.heap.size + 1 + 1 + 1 + 1 + 1 + 1 + 1 + 1 + 1 + 1, 0, none⟩) 3 3, .slice (some ⟨w0.heap.size + 1 + 1 + 1 + 1 + 1 + 1 + 1 + 1 + 1 + 1 + 1, 0, none⟩) 3 3] 55); simpa using q_
  have b5 : W.heap[w0.heap.size + 1 + 1 + 1 + 1 + 1]? = some (.cells #[.int .i64 0, .int .i64 2, .int .i64 4] 2 (0, 0)) := by rw [hW]; have q_ := blk_alloc (blk_alloc (blk_alloc (blk_alloc (blk_alloc (blk_alloc (blk_alloc (blk_new (((((w0.alloc (.cells #[.bool false, .bool false, .bool true, .bool false, .bool true] 4)).alloc (.cells #[.int .i64 0, .int .i64 0, .int .i64 1] 2)).alloc (.cells #[.int .i64 0, .int .i64 4, .int .i64 1] 2)).alloc (.cells #[.int .i64 0, .int .i64 3, .int .i64 2] 2)).alloc (.cells #[.int .i64 0, .int .i64 1, .int .i64 3] 2)) (.cells #[.int .i64 0, .int .i64 2, .int .i64 4] 2)) (.cells #[.int .i64 1, .int .i64 0, .int .i64 1] 2)) (.cells #[.int .i64 1, .int .i64 4, .int .i64 1] 2)) (.cells #[.int .i64 1, .int .i64 3, .int .i64 2] 2)) (.cells #[.int .i64 2, .int .i64 1, .int .i64 2] 2)) (.cells #[.int .i64 3, .int .i64 1, .int .i64 3] 2)) (.cells #[.int .i64 3, .int .i64 2, .int .i64 4] 2)) (.cells #[.slice (some ⟨w0.heap.size + 1, 0, none⟩) 3 3, .slice (some ⟨w0.heap.size + 1 + 1, 0, none⟩) 3 3, .slice (some ⟨w0.heap.size + 1 + 1 + 1, 0, none⟩) 3 3, .slice (some ⟨w0.heap.size + 1 + 1 + 1 + 1, 0, none⟩) 3 3, .slice (some ⟨w0.heap.size + 1 + 1 + 1 + 1 + 1, 0, none⟩) 3 3, .slice (some ⟨w0.heap.size + 1 + 1 + 1 + 1 + 1 + 1, 0, none⟩) 3 3, .slice (some ⟨w0.heap.size + 1 + 1 + 1 + 1 + 1 + 1 + 1, 0, none⟩) 3 3, .slice (some ⟨w0.heap.size + 1 + 1 + 1 + 1 + 1 + 1 + 1 + 1, 0, none⟩) 3 3, .slice (some ⟨w0.heap.size + 1 + 1 + 1 + 1 + 1 + 1 + 1 + 1 + 1, 0, none⟩) 3 3, .slice (some ⟨w0.heap.size + 1 + 1 + 1 + 1 + 1 + 1 + 1 + 1 + 1 + 1, 0, none⟩) 3 3, .slice (some ⟨w0.heap.size + 1 + 1 + 1 + 1 + 1 + 1 + 1 + 1 + 1 + 1 + 1, 0, none⟩) 3 3] 55); simpa using q_
  have b6 : W.heap[w0.heap.size + 1 + 1 + 1 + 1 + 1 + 1]? = some (.cells #[.int .i64 1, .int .i64 0, .int .i64 1] 2 (0, 0)) := by rw [hW]; have q_ := blk_alloc (blk_alloc (blk_alloc (blk_alloc (blk_alloc (blk_alloc (blk_new ((((((w0.alloc (.cells #[.bool false, .bool false, .bool true, .bool false, .bool true] 4)).alloc (.cells #[.int .i64 0, .int .i64 0, .int .i64 1] 2)).alloc (.cells #[.int .i64 0, .int .i64 4, .int .i64 1] 2)).alloc (.cells #[.int .i64 0, .int .i64 3, .int .i64 2] 2)).alloc (.cells #[.int .i64 0, .int .i64 1, .int .i64 3] 2)).alloc (.cells #[.int .i64 0, .int .i64 2, .int .i64 4] 2)) (.cells #[.int .i64 1, .int .i64 0, .int .i64 1] 2)) (.cells #[.int .i64 1, .int .i64 4, .int .i64 1] 2)) (.cells #[.int .i64 1, .int .i64 3, .int .i64 2] 2)) (.cells #[.int .i64 2, .int .i64 1, .int .i64 2] 2)) (.cells #[.int .i64 3, .int .i64 1, .int .i64 3] 2)) (.cells #[.int .i64 3, .int .i64 2, .int .i64 4] 2)) (.cells #[.slice (some ⟨w0.heap.size + 1, 0, none⟩) 3 3, .slice (some ⟨w0.heap.size + 1 + 1, 0, none⟩) 3 3, .slice (some ⟨w0.heap.size + 1 + 1 + 1, 0, none⟩) 3 3, .slice (some ⟨w0.heap.size + 1 + 1 + 1 + 1, 0, none⟩) 3 3, .slice (some ⟨w0.heap.size + 1 + 1 + 1 + 1 + 1, 0, none⟩) 3 3, .slice (some ⟨w0.heap.size + 1 + 1 + 1 + 1 + 1 + 1, 0, none⟩) 3 3, .slice (some ⟨w0.heap.size + 1 + 1 + 1 + 1 + 1 + 1 + 1, 0, none⟩) 3 3, .slice (some ⟨w0.heap.size + 1 + 1 + 1 + 1 + 1 + 1 + 1 + 1, 0, none⟩) 3 3, .slice (some ⟨w0.heap.size + 1 + 1 + 1 + 1 + 1 + 1 + 1 + 1 + 1, 0, none⟩) 3 3, .slice (some ⟨w0.heap.size + 1 + 1 + 1 + 1 + 1 + 1 + 1 + 1 + 1 + 1, 0, none⟩) 3 3, .slice (some ⟨w0.heap.size + 1 + 1 + 1 + 1 + 1 + 1 + 1 + 1 + 1 + 1 + 1, 0, none⟩) 3 3] 55); simpa using q_
  have b7 : W.heap[w0.heap.size + 1 + 1 + 1 + 1 + 1 + 1 + 1]? = some (.cells #[.int .i64 1, .int .i64 4, .int .i64 1] 2 (0, 0)) := by rw [hW]; have q_ := blk_alloc (blk_alloc (blk_alloc (blk_alloc (blk_alloc (blk_new (((((((w0.alloc (.cells #[.bool false, .bool false, .bool true, .bool false, .bool true] 4)).alloc (.cells #[.int .i64 0, .int .i64 0, .int .i64 1] 2)).alloc (.cells #[.int .i64 0, .int .i64 4, .int .i64 1] 2)).alloc (.cells #[.int .i64 0, .int .i64 3, .int .i64 2] 2)).alloc (.cells #[.int .i64 0, .int .i64 1, .int .i64 3] 2)).alloc (.cells #[.int .i64 0, .int .i64 2, .int .i64 4] 2)).alloc (.cells #[.int .i64 1, .int .i64 0, .int .i64 1] 2)) (.cells #[.int .i64 1, .int .i64 4, .int .i64 1] 2)) (.cells #[.int .i64 1, .int .i64 3, .int .i64 2] 2)) (.cells #[.int .i64 2, .int .i64 1, .int .i64 2] 2)) (.cells #[.int .i64 3, .int .i64 1, .int .i64 3] 2)) (.cells #[.int .i64 3, .int .i64 2, .int .i64 4] 2)) (.cells #[.slice (some ⟨w0.heap.size + 1, 0, none⟩) 3 3, .slice (some ⟨w0.heap.size + 1 + 1, 0, none⟩) 3 3, .slice (some ⟨w0.heap.size + 1 + 1 + 1, 0, none⟩) 3 3, .slice (some ⟨w0.heap.size + 1 + 1 + 1 + 1, 0, none⟩) 3 3, .slice (some ⟨w0.heap.size + 1 + 1 + 1 + 1 + 1, 0, none⟩) 3 3, .slice (some ⟨w0.heap.size + 1 + 1 + 1 + 1 + 1 + 1, 0, none⟩) 3 3, .slice (some ⟨w0.heap.size + 1 + 1 + 1 + 1 + 1 + 1 + 1, 0, none⟩) 3 3, .slice (some ⟨w0.heap.size + 1 + 1 + 1 + 1 + 1 + 1 + 1 + 1, 0, none⟩) 3 3, .slice (some ⟨w0.heap.size + 1 + 1 + 1 + 1 + 1 + 1 + 1 + 1 + 1, 0, none⟩) 3 3, .slice (some ⟨w0.heap.size + 1 + 1 + 1 + 1 + 1 + 1 + 1 + 1 + 1 + 1, 0, none⟩) 3 3, .slice (some ⟨w0.heap.size + 1 + 1 + 1 + 1 + 1 + 1 + 1 + 1 + 1 + 1 + 1, 0, none⟩) 3 3] 55); simpa using q_
  have b8 : W.heap[w0.heap.size + 1 + 1 + 1 + 1 + 1 + 1 + 1 + 1]? = some (.cells #[.int .i64 1, .int .i64 3, .int .i64 2] 2 (0, 0)) := by rw [hW]; have q_ := blk_alloc (blk_alloc (blk_alloc (blk_alloc (blk_new ((((((((w0.alloc (.cells #[.bool false, .bool false, .bool true, .bool false, .bool true] 4)).alloc (.cells #[.int .i64 0, .int .i64 0, .int .i64 1] 2)).alloc (.cells #[.int .i64 0, .int .i64 4, .int .i64 1] 2)).alloc (.cells #[.int .i64 0, .int .i64 3, .int .i64 2] 2)).alloc (.cells #[.int .i64 0, .int .i64 1, .int .i64 3] 2)).alloc (.cells #[.int .i64 0, .int .i64 2, .int .i64 4] 2)).alloc (.cells #[.int .i64 1, .int .i64 0, .int .i64 1] 2)).alloc (.cells #[.int .i64 1, .int .i64 4, .int .i64 1] 2)) (.cells #[.int .i64 1, .int .i64 3, .int .i64 2] 2)) (.cells #[.int .i64 2, .int .i64 1, .int .i64 2] 2)) (.cells #[.int .i64 3, .int .i64 1, .int .i64 3] 2)) (.cells #[.int .i64 3, .int .i64 2, .int .i64 4] 2)) (.cells #[.slice (some ⟨w0.heap.size + 1, 0, none⟩) 3 3, .slice (some ⟨w0.heap.size + 1 + 1, 0, none⟩) 3 3, .slice (some ⟨w0.heap.size + 1 + 1 + 1, 0, none⟩) 3 3, .slice (some ⟨w0.heap.size + 1 + 1 + 1 + 1, 0, none⟩) 3 3, .slice (some ⟨w0.heap.size + 1 + 1 + 1 + 1 + 1, 0, none⟩) 3 3, .slice (some ⟨w0.heap.size + 1 + 1 + 1 + 1 + 1 + 1, 0, none⟩) 3 3, .slice (some ⟨w0.heap.size + 1 + 1 + 1 + 1 + 1 + 1 + 1, 0, none⟩) 3 3, .slice (some ⟨w0.heap.size + 1 + 1 + 1 + 1 + 1 + 1 + 1 + 1, 0, none⟩) 3 3, .slice (some ⟨w0.heap.size + 1 + 1 + 1 + 1 + 1 + 1 + 1 + 1 + 1, 0, none⟩) 3 3, .slice (some ⟨w0.heap.size + 1 + 1 + 1 + 1 + 1 + 1 + 1 + 1 + 1 + 1, 0, none⟩) 3 3, .slice (some ⟨w0.heap.size + 1 + 1 + 1 + 1 + 1 + 1 + 1 + 1 + 1 + 1 + 1, 0, none⟩) 3 3] 55); simpa using q_
  have b9 : W.heap[w0.heap.size + 1 + 1 + 1 + 1 + 1 + 1 + 1 + 1 + 1]? = some (.cells #[.int .i64 2, .int .i64 1, .int .i64 2] 2 (0, 0)) := by rw [hW]; have q_ := blk_alloc (blk_alloc (blk_alloc (blk_new (((((((((w0.alloc (.cells #[.bool false, .bool false, .bool true, .bool false, .bool true] 4)).alloc (.cells #[.int .i64 0, .int .i64 0, .int .i64 1] 2)).alloc (.cells #[.int .i64 0, .int .i64 4, .int .i64 1] 2)).alloc (.cells #[.int .i64 0, .int .i64 3, .int .i64 2] 2)).alloc (.cells #[.int .i64 0, .int .i64 1, .int .i64 3] 2)).alloc (.cells #[.int .i64 0, .int .i64 2, .int .i64 4] 2)).alloc (.cells #[.int .i64 1, .int .i64 0, .int .i64 1] 2)).alloc (.cells #[.int .i64 1, .int .i64 4, .int .i64 1] 2)).alloc (.cells #[.int .i64 1, .int .i64 3, .int .i64 2] 2)) (.cells #[.int .i64 2, .int .i64 1, .int .i64 2] 2)) (.cells #[.int .i64 3, .int .i64 1, .int .i64 3] 2)) (.cells #[.int .i64 3, .int .i64 2, .int .i64 4] 2)) (.cells #[.slice (some ⟨w0.heap.size + 1, 0, none⟩) 3 3, .slice (some ⟨w0.heap.size + 1 + 1, 0, none⟩) 3 3, .slice (some ⟨w0.heap.size + 1 + 1 + 1, 0, none⟩) 3 3, .slice (some ⟨w0.heap.size + 1 + 1 + 1 + 1, 0, none⟩) 3 3, .slice (some ⟨w0.heap.size + 1 + 1 + 1 + 1 + 1, 0, none⟩) 3 3, .slice (some ⟨w0.heap.size + 1 + 1 + 1 + 1 + 1 + 1, 0, none⟩) 3 3, .slice (some ⟨w0.heap.size + 1 + 1 + 1 + 1 + 1 + 1 + 1, 0, none⟩) 3 3, .slice (some ⟨w0.heap.size + 1 + 1 + 1 + 1 + 1 + 1 + 1 + 1, 0, none⟩) 3 3, .slice (some ⟨w0.heap.size + 1 + 1 + 1 + 1 + 1 + 1 + 1 + 1 + 1, 0, none⟩) 3 3, .slice (some ⟨w0.heap.size + 1 + 1 + 1 + 1 + 1 + 1 + 1 + 1 + 1 + 1, 0, none⟩) 3 3, .slice (some ⟨w0.heap.size + 1 + 1 + 1 + 1 + 1 + 1 + 1 + 1 + 1 + 1 + 1, 0, none⟩) 3 3] 55); simpa using q_
  have b10 : W.heap[w0.heap.size + 1 + 1 + 1 + 1 + 1 + 1 + 1 + 1 + 1 + 1]? = some (.cells #[.int .i64 3, .int .i64 1, .int .i64 3] 2 (0, 0)) := by rw [hW]; have q_ := blk_alloc (blk_alloc (blk_new ((((((((((w0.alloc (.cells #[.bool false, .bool false, .bool true, .bool false, .bool true] 4)).alloc (.cells #[.int .i64 0, .int .i64 0, .int .i64 1] 2)).alloc (.cells #[.int .i64 0, .int .i64 4, .int .i64 1] 2)).alloc (.cells #[.int .i64 0, .int .i64 3, .int .i64 2] 2)).alloc (.cells #[.int .i64 0, .int .i64 1, .int .i64 3] 2)).alloc (.cells #[.int .i64 0, .int .i64 2, .int .i64 4] 2)).alloc (.cells #[.int .i64 1, .int .i64 0, .int .i64 1] 2)).alloc (.cells #[.int .i64 1, .int .i64 4, .int .i64 1] 2)).alloc (.cells #[.int .i64 1, .int .i64 3, .int .i64 2] 2)).alloc (.cells #[.int .i64 2, .int .i64 1, .int .i64 2] 2)) (.cells #[.int .i64 3, .int .i64 1, .int .i64 3] 2)) (.cells #[.int .i64 3, .int .i64 2, .int .i64 4] 2)) (.cells #[.slice (some ⟨w0.heap.size + 1, 0, none⟩) 3 3, .slice (some ⟨w0.heap.size + 1 + 1, 0, none⟩) 3 3, .slice (some ⟨w0.heap.size + 1 + 1 + 1, 0, none⟩) 3 3, .slice (some ⟨w0.heap.size + 1 + 1 + 1 + 1, 0, none⟩) 3 3, .slice (some ⟨w0.heap.size + 1 + 1 + 1 + 1 + 1, 0, none⟩) 3 3, .slice (some ⟨w0.heap.size + 1 + 1 + 1 + 1 + 1 + 1, 0, none⟩) 3 3, .slice (some ⟨w0.heap.size + 1 + 1 + 1 + 1 + 1 + 1 + 1, 0, none⟩) 3 3, .slice (some ⟨w0.heap.size + 1 + 1 + 1 + 1 + 1 + 1 + 1 + 1, 0, none⟩) 3 3, .slice (some ⟨w0.heap.size + 1 + 1 + 1 + 1 + 1 + 1 + 1 + 1 + 1, 0, none⟩) 3 3, .slice (some ⟨w0.heap.size + 1 + 1 + 1 + 1 + 1 + 1 + 1 + 1 + 1 + 1, 0, none⟩) 3 3, .slice (some ⟨w0.heap.size + 1 + 1 + 1 + 1 + 1 + 1 + 1 + 1 + 1 + 1 + 1, 0, none⟩) 3 3] 55); simpa using q_
  have b11 : W.heap[w0.heap.size + 1 + 1 + 1 + 1 + 1 + 1 + 1 + 1 + 1 + 1 + 1]? = some (.cells #[.int .i64 3, .int .i64 2, .int .i64 4] 2 (0, 0)) := by rw [hW]; have q_ := blk_alloc (blk_new (((((((((((w0.alloc (.cells #[.bool false, .bool false, .bool true, .bool false, .bool true] 4)).alloc (.cells #[.int .i64 0, .int .i64 0, .int .i64 1] 2)).alloc (.cells #[.int .i64 0, .int .i64 4, .int .i64 1] 2)).alloc (.cells #[.int .i64 0, .int .i64 3, .int .i64 2] 2)).alloc (.cells #[.int .i64 0, .int .i64 1, .int .i64 3] 2)).alloc (.cells #[.int .i64 0, .int .i64 2, .int .i64 4] 2)).alloc (.cells #[.int .i64 1, .int .i64 0, .int .i64 1] 2)).alloc (.cells #[.int .i64 1, .int .i64 4, .int .i64 1] 2)).alloc (.cells #[.int .i64 1, .int .i64 3, .int .i64 2] 2)).alloc (.cells #[.int .i64 2, .int .i64 1, .int .i64 2] 2)).alloc (.cells #[.int .i64 3, .int .i64 1, .int .i64 3] 2)) (.cells #[.int .i64 3, .int .i64 2, .int .i64 4] 2)) (.cells #[.slice (some ⟨w0.heap.size + 1, 0, none⟩) 3 3, .slice (some ⟨w0.heap.size + 1 + 1, 0, none⟩) 3 3, .slice (some ⟨w0.heap.size + 1 + 1 + 1, 0, none⟩) 3 3, .slice (some ⟨w0.heap.size + 1 + 1 + 1 + 1, 0, none⟩) 3 3, .slice (some ⟨w0.heap.size + 1 + 1 + 1 + 1 + 1, 0, none⟩) 3 3, .slice (some ⟨w0.heap.size + 1 + 1 + 1 + 1 + 1 + 1, 0, none⟩) 3 3, .slice (some ⟨w0.heap.size + 1 + 1 + 1 + 1 + 1 + 1 + 1, 0, none⟩) 3 3, .slice (some ⟨w0.heap.size + 1 + 1 + 1 + 1 + 1 + 1 + 1 + 1, 0, none⟩) 3 3, .slice (some ⟨w0.heap.size + 1 + 1 + 1 + 1 + 1 + 1 + 1 + 1 + 1, 0, none⟩) 3 3, .slice (some ⟨w0.heap.size + 1 + 1 + 1 + 1 + 1 + 1 + 1 + 1 + 1 + 1, 0, none⟩) 3 3, .slice (some ⟨w0.heap.size + 1 + 1 + 1 + 1 + 1 + 1 + 1 + 1 + 1 + 1 + 1, 0, none⟩) 3 3] 55); simpa using q_
  have b12 : W.heap[w0.heap.size + 1 + 1 + 1 + 1 + 1 + 1 + 1 + 1 + 1 + 1 + 1 + 1]? = some (.cells #[.slice (some ⟨w0.heap.size + 1, 0, none⟩) 3 3, .slice (some ⟨w0.heap.size + 1 + 1, 0, none⟩) 3 3, .slice (some ⟨w0.heap.size + 1 + 1 + 1, 0, none⟩) 3 3, .slice (some ⟨w0.heap.size + 1 + 1 + 1 + 1, 0, none⟩) 3 3, .slice (some ⟨w0.heap.size + 1 + 1 + 1 + 1 + 1, 0, none⟩) 3 3, .slice (some ⟨w0.heap.size + 1 + 1 + 1 + 1 + 1 + 1, 0, none⟩) 3 3, .slice (some ⟨w0.heap.size + 1 + 1 + 1 + 1 + 1 + 1 + 1, 0, none⟩) 3 3, .slice (some ⟨w0.heap.size + 1 + 1 + 1 + 1 + 1 + 1 + 1 + 1, 0, none⟩) 3 3, .slice (some ⟨w0.heap.size + 1 + 1 + 1 + 1 + 1 + 1 + 1 + 1 + 1, 0, none⟩) 3 3, .slice (some ⟨w0.heap.size + 1 + 1 + 1 + 1 + 1 + 1 + 1 + 1 + 1 + 1, 0, none⟩) 3 3, .slice (some ⟨w0.heap.size + 1 + 1 + 1 + 1 + 1 + 1 + 1 + 1 + 1 + 1 + 1, 0, none⟩) 3 3] 55 (0, 0)) := by rw [hW]; have q_ := blk_new ((((((((((((w0.alloc (.cells #[.bool false, .bool false, .bool true, .bool false, .bool true] 4)).alloc (.cells #[.int .i64 0, .int .i64 0, .int .i64 1] 2)).alloc (.cells #[.int .i64 0, .int .i64 4, .int .i64 1] 2)).alloc (.cells #[.int .i64 0, .int .i64 3, .int .i64 2] 2)).alloc (.cells #[.int .i64 0, .int .i64 1, .int .i64 3] 2)).alloc (.cells #[.int .i64 0, .int .i64 2, .int .i64 4] 2)).alloc (.cells #[.int .i64 1, .int .i64 0, .int .i64 1] 2)).alloc (.cells #[.int .i64 1, .int .i64 4, .int .i64 1] 2)).alloc (.cells #[.int .i64 1, .int .i64 3, .int .i64 2] 2)).alloc (.cells #[.int .i64 2, .int .i64 1, .int .i64 2] 2)).alloc (.cells #[.int .i64 3, .int .i64 1, .int .i64 3] 2)).alloc (.cells #[.int .i64 3, .int .i64 2, .int .i64 4] 2)) (.cells #[.slice (some ⟨w0.heap.size + 1, 0, none⟩) 3 3, .slice (some ⟨w0.heap.size + 1 + 1, 0, none⟩) 3 3, .slice (some ⟨w0.heap.size + 1 + 1 + 1, 0, none⟩) 3 3, .slice (some ⟨w0.heap.size + 1 + 1 + 1 + 1, 0, none⟩) 3 3, .slice (some ⟨w0.heap.size + 1 + 1 + 1 + 1 + 1, 0, none⟩) 3 3, .slice (some ⟨w0.heap.size + 1 + 1 + 1 + 1 + 1 + 1, 0, none⟩) 3 3, .slice (some ⟨w0.heap.size + 1 + 1 + 1 + 1 + 1 + 1 + 1, 0, none⟩) 3 3, .slice (some ⟨w0.heap.size + 1 + 1 + 1 + 1 + 1 + 1 + 1 + 1, 0, none⟩) 3 3, .slice (some ⟨w0.heap.size + 1 + 1 + 1 + 1 + 1 + 1 + 1 + 1 + 1, 0, none⟩) 3 3, .slice (some ⟨w0.heap.size + 1 + 1 + 1 + 1 + 1 + 1 + 1 + 1 + 1 + 1, 0, none⟩) 3 3, .slice (some ⟨w0.heap.size + 1 + 1 + 1 + 1 + 1 + 1 + 1 + 1 + 1 + 1 + 1, 0, none⟩) 3 3] 55); simpa using q_
  have CB := Aside0.mk (C_bools (l := [false, false, true, false, true]) b0 (by decide))
  have c0 := C_ints (l := [0, 0, 1]) b1 (by decide)
  have c1 := C_ints (l := [0, 4, 1]) b2 (by decide)
  have c2 := C_ints (l := [0, 3, 2]) b3 (by decide)
  have c3 := C_ints (l := [0, 1, 3]) b4 (by decide)
  have c4 := C_ints (l := [0, 2, 4]) b5 (by decide)
  have c5 := C_ints (l := [1, 0, 1]) b6 (by decide)
  have c6 := C_ints (l := [1, 4, 1]) b7 (by decide)
  have c7 := C_ints (l := [1, 3, 2]) b8 (by decide)
  have c8 := C_ints (l := [2, 1, 2]) b9 (by decide)
  have c9 := C_ints (l := [3, 1, 3]) b10 (by decide)
  have c10 := C_ints (l := [3, 2, 4]) b11 (by decide)
  have CR := Aside0.mk (C_rows (ps := [(w0.heap.size + 1, [0, 0, 1]), (w0.heap.size + 1 + 1, [0, 4, 1]), (w0.heap.size + 1 + 1 + 1, [0, 3, 2]), (w0.heap.size + 1 + 1 + 1 + 1, [0, 1, 3]), (w0.heap.size + 1 + 1 + 1 + 1 + 1, [0, 2, 4]), (w0.heap.size + 1 + 1 + 1 + 1 + 1 + 1, [1, 0, 1]), (w0.heap.size + 1 + 1 + 1 + 1 + 1 + 1 + 1, [1, 4, 1]), (w0.heap.size + 1 + 1 + 1 + 1 + 1 + 1 + 1 + 1, [1, 3, 2]), (w0.heap.size + 1 + 1 + 1 + 1 + 1 + 1 + 1 + 1 + 1, [2, 1, 2]), (w0.heap.size + 1 + 1 + 1 + 1 + 1 + 1 + 1 + 1 + 1 + 1, [3, 1, 3]), (w0.heap.size + 1 + 1 + 1 + 1 + 1 + 1 + 1 + 1 + 1 + 1 + 1, [3, 2, 4])]) b12 (by simp) (by intro p hp; simp only [List.mem_cons, List.not_mem_nil, or_false] at hp; rcases hp with rfl|rfl|rfl|rfl|rfl|rfl|rfl|rfl|rfl|rfl|rfl <;> assumption))
  clear b0 b1 b2 b3 b4 b5 b6 b7 b8 b9 b10 b11 b12 c0 c1 c2 c3 c4 c5 c6 c7 c8 c9 c10
  have HB1 := Aside0.mk (below_then HB0.out HB0.out.size HBW.out)
  have HBR1 := Aside0.mk (blk_below HBR.out HBW.out)
  clear HB0 HBR HBW
  have HK := spec_l02Known.calls k _ _ [false, false, true, false, true] _ _ [[0, 0, 1], [0, 4, 1], [0, 3, 2], [0, 1, 3], [0, 2, 4], [1, 0, 1], [1, 4, 1], [1, 3, 2], [2, 1, 2], [3, 1, 3], [3, 2, 4]] r1 r2 r3 r4 W CB.out (Nat.le_refl _) CR.out (Nat.le_refl _) H.out
  rw [hW, ← hsz, hw0] at HK
  have HKH := Aside0.mk HK
  have HWW := Aside0.mk hW
  have HSS := Aside0.mk hsz
  have HW0 := Aside0.mk hw0
  clear HK hW hsz hw0
  go_enter Tryd.func34, Tryd.ntmps34
  go_wp2_with (fail)
  refine HKH.out.mono ?_
  clear HKH
  rintro e w2 ⟨v2, v3, rfl, hR0, hS0, hb0⟩
  have hR : Kd.R Kd.bool 4 w2 W.heap.size (fun _ => True) v2 r3 := by have e2_ := HW0.out; have e1_ := HSS.out; have e0_ := HWW.out; rw [e0_, ← e1_, e2_]; exact hR0
  have hS : Kd.S (Kd.slice 2 (Kd.int .i64)) 55 w2 W.heap.size (fun _ => True) v3 r4 := by have e2_ := HW0.out; have e1_ := HSS.out; have e0_ := HWW.out; rw [e0_, ← e1_, e2_]; exact hS0
  have hb : Below W.heap.size W w2 := by have e2_ := HW0.out; have e1_ := HSS.out; have e0_ := HWW.out; rw [e0_, ← e1_, e2_]; exact hb0
  clear hR0 hS0 hb0 HW0 HSS HWW
  obtain ⟨B2, d2, hv2⟩ := Kd.R_slice hR
  subst hv2
  obtain ⟨B3, d3, hv3⟩ := Kd.S_slice hS
  subst hv3
  have HB2 := Aside0.mk (below_then HB1.out HB1.out.size hb)
  have HBR2 := Aside0.mk (blk_below HBR1.out hb)
  have HE := Aside0.mk (fill_endR' (w := w) hR hS HB1.out.size HB2.out HBR2.out (by omega) (.int .i64 r1) (.int .i64 r2))
  have n0 : w2.cell? ⟨w.heap.size, 0, none⟩ = some (.int .i64 0) := (blk_cell HBR2.out 0).trans rfl
  have n1 : w2.cell? ⟨w.heap.size, 1, none⟩ = some (.int .i64 0) := (blk_cell HBR2.out 1).trans rfl
  have n2 : w2.cell? ⟨w.heap.size, 2, none⟩ = some (.slice none 0 0) := (blk_cell HBR2.out 2).trans rfl
  have n3 : w2.cell? ⟨w.heap.size, 3, none⟩ = some (.slice none 0 0) := (blk_cell HBR2.out 3).trans rfl
  have f0 := blk_frozen HBR2.out 0
  have f1 := blk_frozen HBR2.out 1
  have f2 := blk_frozen HBR2.out 2
  have f3 := blk_frozen HBR2.out 3
  clear HB1 HBR1 HB2 HBR2 hR hS hb CB CR
  go_wp2
  refine bodyPost_ret (v := .agg #[.int .i64 r1, .int .i64 r2, .slice B2 r3.length d2, .slice B3 r4.length d3]) (by simp [results, Tryd.results34, go_sem, n0, n1, n2, n3]) rfl ⟨_, _, rfl, HE.out⟩
 trivial
end Go.Proofs.YtbkcllfgolmloaaDoor.X

