import Derived.Test.YtbkcllfgolmloaaDoorAL2
import Derived.Test.YtbkcllfgolmloaaDoorAL7
import Derived.Test.YtbkcllfgolmloaaDoorAL3
import Derived.Test.YtbkcllfgolmloaaDoorAL4
import Derived.Carry
import Derived.Outline
import Derived.Test.YtbkcllfgolmloaaDoorRows
import Derived.Test.YtbkcllfgolmloaaDoorAL5
import Derived.Lib.LaidTab
import Derived.LaidLaws
import Derived.ChangeVars
import Derived.JoinedOf
import Derived.JoinedAt
-- Written by a program of this claim's author, out of the translation.
namespace Go.Proofs.YtbkcllfgolmloaaDoor.X
open Go.RowKit Go.Proofs.YtbkcllfgolmloaaDoorW.PrintWords Go.Proofs.YtbkcllfgolmloaaDoorW.PrintLast Go.Proofs.YtbkcllfgolmloaaDoorW.PrintMore
attribute [local go_sem] max2_int min2_int max_two min_two max_three min_three max_four min_four   -- for this text's walks alone
set_option linter.unusedVariables false
set_option linter.unusedSimpArgs false
def impl_machine_relationOf.l0 : Nat → List (List Int) → Int → Int → Int → Int → List Bool → List (List Int) → Option (Int × Int × List Bool × (List (List Int)) × Int)
 | 0, _, _, _, _, _, _, _ => none
 | k + 1, x21, x22, x23, x427000, x427001, x427002, x427003 => if x23 < x22 then (if 0 ≤ x23 then (if x23 < (x21.length : Int) then ((impl_asLongs.f k (rd_L7 x21 x23)).bind fun t428 => (if x427003.length < 5864062014805 then (impl_machine_relationOf.l0 k x21 x22 (wrap64 (x23 + 1)) x427000 x427001 x427002 (x427003 ++ [t428])) else (none))) else (none)) else (none)) else (some (x427000, x427001, x427002, x427003, 0))
def impl_machine_relationOf.f (k : Nat) (a0_0 : Int) (a0_1 : Int) (l0_2 : List Bool) (l0_3 : List (List Int)) : Option (Int × Int × List Bool × (List (List Int)) × Int) := if (l0_2.length : Int) > 150 then (some (0, 0, ([] : List Bool), ([] : List (List Int)), 3)) else ((slices_Clone_bool_bool.f l0_2).bind fun t423 => (impl_machine_relationOf.l0 k l0_3 (l0_3.length : Int) 0 a0_0 a0_1 t423 ([] : List (List Int))))
def impl_machine_relationOf.T3 : Bool × List (List Nat × List Nat) := (true, [([], []), ([0], [0]), ([], []), ([2], [2]), ([], []), ([4], [4]), ([5], [5]), ([1, 3, 6], [1, 3, 6]), ([], []), ([8, 7, 6, 0, 1, 2, 3, 4, 5, 6, 7, 8], [7, 8])])
def impl_machine_relationOf.B3 : List Nat := [0, 1, 0, 4, 0, 16, 48, 127, 0, 511]
theorem impl_machine_relationOf.tab3 : rtab .any (opsOf Tryd.f126 3) = impl_machine_relationOf.T3 := by kernel_rfl
theorem impl_machine_relationOf.bits3 : waitsOk impl_machine_relationOf.T3.2 impl_machine_relationOf.B3 = true := by kernel_rfl
def impl_machine_relationOf.T7 : Bool × List (List Nat × List Nat) := (true, [([], []), ([0], [0]), ([], []), ([2], [2]), ([3], [3]), ([1, 4, 3], [1, 4]), ([0, 1, 2, 3, 4, 5], []), ([6, 5, 5, 0, 1, 2, 3, 4, 5], [5, 6])])
def impl_machine_relationOf.B7 : List Nat := [0, 1, 0, 4, 12, 31, 63, 127]
theorem impl_machine_relationOf.tab7 : rtab .any (opsOf Tryd.f126 7) = impl_machine_relationOf.T7 := by kernel_rfl
theorem impl_machine_relationOf.bits7 : waitsOk impl_machine_relationOf.T7.2 impl_machine_relationOf.B7 = true := by kernel_rfl
set_option maxHeartbeats 8000000 in
set_option maxRecDepth 100000 in
theorem impl_machine_relationOf.calls (k : Nat) (a0_0 : Int) (a0_1 : Int) (A0_2 : Option Addr) (c0_2 : Nat) (l0_2 : List Bool) (A0_3 : Option Addr) (c0_3 : Nat) (l0_3 : List (List Int)) (r1 : Int) (r2 : Int) (r3 : List Bool) (r4 : List (List Int)) (r5 : Int) (w : World) (hr0_2 : Kd.C Kd.bool w A0_2 l0_2.length l0_2) (hc0_2 : l0_2.length ≤ c0_2) (hr0_3 : Kd.C (Kd.slice 3 (Kd.int .i64)) w A0_3 l0_3.length l0_3) (hc0_3 : l0_3.length ≤ c0_3) (h : impl_machine_relationOf.f k a0_0 a0_1 l0_2 l0_3 = some (r1, r2, r3, r4, r5)) :
  Calls Tryd.prog 126 #[.agg #[.int .i64 a0_0, .int .i64 a0_1, .slice A0_2 l0_2.length c0_2, .slice A0_3 l0_3.length c0_3]] w fun e w' => ∃ v2_ v3_ : Value, e = .returned (.tuple #[.agg #[.int .i64 r1, .int .i64 r2, v2_, v3_], .int .i64 r5]) ∧ Kd.R Kd.bool 4 w' w.heap.size (fun _ => True) v2_ r3 ∧ Kd.S (Kd.slice 2 (Kd.int .i64)) 55 w' w.heap.size (fun _ => True) v3_ r4 ∧ Below w.heap.size w w' := by
 have hu74 := Tryd.underlying74
 have hu28 := Tryd.underlying28
 have HR0_2 := Aside0.mk hr0_2
 have HC0_2 := Aside0.mk hc0_2
 clear hr0_2 hc0_2
 have HR0_3 := Aside0.mk hr0_3
 have HC0_3 := Aside0.mk hc0_3
 clear hr0_3 hc0_3
 have HB := Aside0.mk (Below.refl w.heap.size w)
 have H : (if (l0_2.length : Int) > 150 then (some (0, 0, ([] : List Bool), ([] : List (List Int)), 3)) else ((slices_Clone_bool_bool.f l0_2).bind fun t423 => (impl_machine_relationOf.l0 k l0_3 (l0_3.length : Int) 0 a0_0 a0_1 t423 ([] : List (List Int))))) = some (r1, r2, r3, r4, r5) := h
 clear h
 by_cases c2 : (l0_2.length : Int) > 150
 ·rw [if_pos c2] at H
  have c2b0 : decide (150 < (l0_2.length : Int)) = true := decide_eq_true c2
  have c2b1 : decide (150 < l0_2.length) = true := decide_eq_true (by omega)
  clear c2
  simp only [Option.some.injEq, Prod.mk.injEq] at H
  obtain ⟨rfl, rfl, rfl, rfl, rfl⟩ := H
  go_enter Tryd.func126, Tryd.ntmps126
  go_wp2_with (first | ((with_reducible refine gate_dst (N := 1) rfl ?_); refine box_event ?hg (N := 1) ?hd (cs := #[.int .i64 a0_0, .int .i64 a0_1, .slice A0_2 l0_2.length c0_2, .slice A0_3 l0_3.length c0_3]) (t := 74) ?hr ?_; (case hd => rfl); (case hg => rfl); (case hr => first | (go_simp; done) | (go_simp; rfl)); intro gb421 hg w3 hbox hb; have n0_ := Aside0.mk (below_step (by repeat (first | (with_reducible first | exact HB.out | apply below_alloc | apply pw_below_drewN | apply below_drew1) | exact HB.out)) hb); have n1_ := Aside0.mk (hbox); have n2_ := Aside0.mk ((by rw [hg]; exact (below_size (by repeat (first | (with_reducible first | exact HB.out | apply below_alloc | apply pw_below_drewN | apply below_drew1) | exact HB.out))) : w.heap.size ≤ gb421)); have n3_ := Aside0.mk ((by rw [hg]; exact (below_size (by repeat (first | (with_reducible first | exact HB.out | apply below_alloc | apply pw_below_drewN | apply below_drew1) | exact HB.out))) : w.heap.size ≤ gb421)); clear HB; have HB := n0_; have BK421 := n1_; have GW421 := n2_; have GE421 := n3_; clear n0_ n1_ n2_ n3_; clear hb hbox hg) | ((with_reducible refine gate_dst (N := 2) rfl ?_); refine box_event ?hg (N := 2) ?hd (cs := #[.int .i64 0, .int .i64 0, .slice none 0 0, .slice none 0 0]) (t := 28) ?hr ?_; (case hd => rfl); (case hg => rfl); (case hr => first | (go_simp; done) | (go_simp; rfl)); intro gb422 hg w4 hbox hb; have n0_ := Aside0.mk (blk_below (g := gb421) (o := .cells #[.int .i64 a0_0, .int .i64 a0_1, .slice A0_2 l0_2.length c0_2, .slice A0_3 l0_3.length c0_3] 74 (0, 0)) (by (with_reducible repeat (first | refine blk_drewN ?_ _ | refine blk_drew ?_ | refine blk_alloc ?_ _)); exact BK421.out) hb); have n1_ := Aside0.mk (below_step (by repeat (first | (with_reducible first | exact HB.out | apply below_alloc | apply pw_below_drewN | apply below_drew1 | refine below_set ?_ GE421.out) | exact HB.out)) hb); have n2_ := Aside0.mk (hbox); have n3_ := Aside0.mk ((by rw [hg]; exact (below_size (by repeat (first | (with_reducible first | exact HB.out | apply below_alloc | apply pw_below_drewN | apply below_drew1 | refine below_set ?_ GE421.out) | exact HB.out))) : w.heap.size ≤ gb422)); have n4_ := Aside0.mk ((by rw [hg]; exact (below_size (by repeat (first | (with_reducible first | exact HB.out | apply below_alloc | apply pw_below_drewN | apply below_drew1 | refine below_set ?_ GE421.out) | exact HB.out))) : w.heap.size ≤ gb422)); have n5_ := Aside0.mk ((by rw [hg]; exact Nat.ne_of_lt (blk_lt (g := gb421) (o := .cells #[.int .i64 a0_0, .int .i64 a0_1, .slice A0_2 l0_2.length c0_2, .slice A0_3 l0_3.length c0_3] 74 (0, 0)) (by (with_reducible repeat (first | refine blk_drewN ?_ _ | refine blk_drew ?_ | refine blk_alloc ?_ _)); exact BK421.out)) : gb421 ≠ gb422)); have n6_ := Aside0.mk ((by rw [hg]; exact Nat.ne_of_gt (blk_lt (g := gb421) (o := .cells #[.int .i64 a0_0, .int .i64 a0_1, .slice A0_2 l0_2.length c0_2, .slice A0_3 l0_3.length c0_3] 74 (0, 0)) (by (with_reducible repeat (first | refine blk_drewN ?_ _ | refine blk_drew ?_ | refine blk_alloc ?_ _)); exact BK421.out)) : gb422 ≠ gb421)); clear BK421; clear HB; have BK421 := n0_; have HB := n1_; have BK422 := n2_; have GW422 := n3_; have GE422 := n4_; have NB421_422 := n5_; have NB422_421 := n6_; clear n0_ n1_ n2_ n3_ n4_ n5_ n6_; clear hb hbox hg; have hnb5 := NB421_422.out; have hnc5 := NB422_421.out; have hcz6_0 : w4.cell? ⟨gb421, 0, none⟩ = some (.int .i64 a0_0) := (blk_cell BK421.out 0).trans rfl; have hcz6_1 : w4.cell? ⟨gb421, 1, none⟩ = some (.int .i64 a0_1) := (blk_cell BK421.out 1).trans rfl; have hcz6_2 : w4.cell? ⟨gb421, 2, none⟩ = some (.slice A0_2 l0_2.length c0_2) := (blk_cell BK421.out 2).trans rfl; have hcz6_3 : w4.cell? ⟨gb421, 3, none⟩ = some (.slice A0_3 l0_3.length c0_3) := (blk_cell BK421.out 3).trans rfl; have hfz6_0 := blk_frozen BK421.out 0; have hfz6_1 := blk_frozen BK421.out 1; have hfz6_2 := blk_frozen BK421.out 2; have hfz6_3 := blk_frozen BK421.out 3; have hcz7_0 : w4.cell? ⟨gb422, 0, none⟩ = some (.int .i64 0) := (blk_cell BK422.out 0).trans rfl; have hcz7_1 : w4.cell? ⟨gb422, 1, none⟩ = some (.int .i64 0) := (blk_cell BK422.out 1).trans rfl; have hcz7_2 : w4.cell? ⟨gb422, 2, none⟩ = some (.slice none 0 0) := (blk_cell BK422.out 2).trans rfl; have hcz7_3 : w4.cell? ⟨gb422, 3, none⟩ = some (.slice none 0 0) := (blk_cell BK422.out 3).trans rfl; have hfz7_0 := blk_frozen BK422.out 0; have hfz7_1 := blk_frozen BK422.out 1; have hfz7_2 := blk_frozen BK422.out 2; have hfz7_3 := blk_frozen BK422.out 3))
  refine bodyPost_ret (results_ct rfl _ _ gb422 28 #[.int .i64 0, .int .i64 0, .slice none 0 0, .slice none 0 0] (0, 0) _ rfl (by (with_reducible repeat (first | refine blk_drewN ?_ _ | refine blk_drew ?_ | refine blk_alloc ?_ _)); refine blk_put (cs := #[.int .i64 0, .int .i64 0, .slice none 0 0, .slice none 0 0]) ?_ 3 _ rfl; (with_reducible repeat (first | refine blk_drewN ?_ _ | refine blk_drew ?_ | refine blk_alloc ?_ _)); refine blk_put (cs := #[.int .i64 0, .int .i64 0, .slice none 0 0, .slice none 0 0]) ?_ 2 _ rfl; (with_reducible repeat (first | refine blk_drewN ?_ _ | refine blk_drew ?_ | refine blk_alloc ?_ _)); refine blk_put (cs := #[.int .i64 0, .int .i64 0, .slice none 0 0, .slice none 0 0]) ?_ 1 _ rfl; (with_reducible repeat (first | refine blk_drewN ?_ _ | refine blk_drew ?_ | refine blk_alloc ?_ _)); refine blk_put (cs := #[.int .i64 0, .int .i64 0, .slice none 0 0, .slice none 0 0]) ?_ 0 _ rfl; (with_reducible repeat (first | refine blk_drewN ?_ _ | refine blk_drew ?_ | refine blk_alloc ?_ _)); exact BK422.out) Tryd.underlying28 rfl (by kernel_rfl)) rfl ?_
  exact ⟨_, _, by first | rfl | (simp [errW_none, errW_some] <;> rfl) | (simp [*, errW_none, errW_some] <;> rfl), by first | exact Kd.R_nil _ _ _ _ _ | exact Kd.N_nil _ _ _ _ _ | exact Kd.V_nil _ _ _ _ _ | exact Kd.Q_nil _ _ _ _ _ | exact Kd.S_nil _ _ _ _ _, by first | exact Kd.S_nil _ _ _ _ _ | exact Kd.N_nil _ _ _ _ _ | exact Kd.V_nil _ _ _ _ _ | exact Kd.Q_nil _ _ _ _ _ | exact Kd.R_nil _ _ _ _ _, by repeat (first | (with_reducible first | exact HB.out | apply below_alloc | apply pw_below_drewN | apply below_drew1 | refine below_set ?_ GE421.out | refine below_set ?_ GE422.out) | exact HB.out)⟩
 ·rw [if_neg c2] at H
  have c2b0 : decide (150 < (l0_2.length : Int)) = false := decide_eq_false c2
  have c2b1 : decide (150 < l0_2.length) = false := decide_eq_false (by omega)
  clear c2
  replace H := Option.bind_eq_some_iff.mp H
  obtain ⟨t423, A80, H⟩ := H
  replace H : (impl_machine_relationOf.l0 k l0_3 (l0_3.length : Int) 0 a0_0 a0_1 t423 ([] : List (List Int))) = some (r1, r2, r3, r4, r5) := H
  have A8 := Aside0.mk A80
  clear A80
  have H' := Aside0.mk H
  clear H
  go_enter Tryd.func126, Tryd.ntmps126
  try go_wp2_with (first | ((with_reducible refine gate_dst (N := 1) rfl ?_); refine box_event ?hg (N := 1) ?hd (cs := #[.int .i64 a0_0, .int .i64 a0_1, .slice A0_2 l0_2.length c0_2, .slice A0_3 l0_3.length c0_3]) (t := 74) ?hr ?_; (case hd => rfl); (case hg => rfl); (case hr => first | (go_simp; done) | (go_simp; rfl)); intro gb421 hg w9 hbox hb; have n0_ := Aside0.mk (below_step (by repeat (first | (with_reducible first | exact HB.out | apply below_alloc | apply pw_below_drewN | apply below_drew1) | exact HB.out)) hb); have n1_ := Aside0.mk (hbox); have n2_ := Aside0.mk ((by rw [hg]; exact (below_size (by repeat (first | (with_reducible first | exact HB.out | apply below_alloc | apply pw_below_drewN | apply below_drew1) | exact HB.out))) : w.heap.size ≤ gb421)); have n3_ := Aside0.mk ((by rw [hg]; exact (below_size (by repeat (first | (with_reducible first | exact HB.out | apply below_alloc | apply pw_below_drewN | apply below_drew1) | exact HB.out))) : w.heap.size ≤ gb421)); clear HB; have HB := n0_; have BK421 := n1_; have GW421 := n2_; have GE421 := n3_; clear n0_ n1_ n2_ n3_; clear hb hbox hg) | ((with_reducible refine gate_dst (N := 2) rfl ?_); refine box_event ?hg (N := 2) ?hd (cs := #[.int .i64 0, .int .i64 0, .slice none 0 0, .slice none 0 0]) (t := 28) ?hr ?_; (case hd => rfl); (case hg => rfl); (case hr => first | (go_simp; done) | (go_simp; rfl)); intro gb422 hg w10 hbox hb; have n0_ := Aside0.mk (blk_below (g := gb421) (o := .cells #[.int .i64 a0_0, .int .i64 a0_1, .slice A0_2 l0_2.length c0_2, .slice A0_3 l0_3.length c0_3] 74 (0, 0)) (by (with_reducible repeat (first | refine blk_drewN ?_ _ | refine blk_drew ?_ | refine blk_alloc ?_ _)); exact BK421.out) hb); have n1_ := Aside0.mk (below_step (by repeat (first | (with_reducible first | exact HB.out | apply below_alloc | apply pw_below_drewN | apply below_drew1 | refine below_set ?_ GE421.out) | exact HB.out)) hb); have n2_ := Aside0.mk (hbox); have n3_ := Aside0.mk ((by rw [hg]; exact (below_size (by repeat (first | (with_reducible first | exact HB.out | apply below_alloc | apply pw_below_drewN | apply below_drew1 | refine below_set ?_ GE421.out) | exact HB.out))) : w.heap.size ≤ gb422)); have n4_ := Aside0.mk ((by rw [hg]; exact (below_size (by repeat (first | (with_reducible first | exact HB.out | apply below_alloc | apply pw_below_drewN | apply below_drew1 | refine below_set ?_ GE421.out) | exact HB.out))) : w.heap.size ≤ gb422)); have n5_ := Aside0.mk ((by rw [hg]; exact Nat.ne_of_lt (blk_lt (g := gb421) (o := .cells #[.int .i64 a0_0, .int .i64 a0_1, .slice A0_2 l0_2.length c0_2, .slice A0_3 l0_3.length c0_3] 74 (0, 0)) (by (with_reducible repeat (first | refine blk_drewN ?_ _ | refine blk_drew ?_ | refine blk_alloc ?_ _)); exact BK421.out)) : gb421 ≠ gb422)); have n6_ := Aside0.mk ((by rw [hg]; exact Nat.ne_of_gt (blk_lt (g := gb421) (o := .cells #[.int .i64 a0_0, .int .i64 a0_1, .slice A0_2 l0_2.length c0_2, .slice A0_3 l0_3.length c0_3] 74 (0, 0)) (by (with_reducible repeat (first | refine blk_drewN ?_ _ | refine blk_drew ?_ | refine blk_alloc ?_ _)); exact BK421.out)) : gb422 ≠ gb421)); clear BK421; clear HB; have BK421 := n0_; have HB := n1_; have BK422 := n2_; have GW422 := n3_; have GE422 := n4_; have NB421_422 := n5_; have NB422_421 := n6_; clear n0_ n1_ n2_ n3_ n4_ n5_ n6_; clear hb hbox hg; have hnb11 := NB421_422.out; have hnc11 := NB422_421.out; have hcz12_0 : w10.cell? ⟨gb421, 0, none⟩ = some (.int .i64 a0_0) := (blk_cell BK421.out 0).trans rfl; have hcz12_1 : w10.cell? ⟨gb421, 1, none⟩ = some (.int .i64 a0_1) := (blk_cell BK421.out 1).trans rfl; have hcz12_2 : w10.cell? ⟨gb421, 2, none⟩ = some (.slice A0_2 l0_2.length c0_2) := (blk_cell BK421.out 2).trans rfl; have hcz12_3 : w10.cell? ⟨gb421, 3, none⟩ = some (.slice A0_3 l0_3.length c0_3) := (blk_cell BK421.out 3).trans rfl; have hfz12_0 := blk_frozen BK421.out 0; have hfz12_1 := blk_frozen BK421.out 1; have hfz12_2 := blk_frozen BK421.out 2; have hfz12_3 := blk_frozen BK421.out 3))
  have n0_ := Aside0.mk (blk_drew BK421.out)
  have n1_ := Aside0.mk (blk_drew BK422.out)
  have n2_ := Aside0.mk (below_drew1 HB.out)
  clear BK421
  clear BK422
  clear HB
  have BK421 := n0_
  have BK422 := n1_
  have HB := n2_
  clear n0_ n1_ n2_
  refine start_ (n := 10) (S := fun w' => w'.cell? ⟨gb421, 0, none⟩ = some (.int .i64 a0_0) ∧ w'.cell? ⟨gb421, 1, none⟩ = some (.int .i64 a0_1) ∧ w'.cell? ⟨gb421, 2, none⟩ = some (.slice A0_2 l0_2.length c0_2) ∧ w'.cell? ⟨gb421, 3, none⟩ = some (.slice A0_3 l0_3.length c0_3)) (ds := []) #[false, false, false, false, false, false, false, false, false, false] (by kernel_rfl) rfl rfl ⟨(blk_cell BK421.out 0).trans rfl, (blk_cell BK421.out 1).trans rfl, (blk_cell BK421.out 2).trans rfl, (blk_cell BK421.out 3).trans rfl⟩ (fun hHeld => ?_); refine with_tabW impl_machine_relationOf.tab3 impl_machine_relationOf.bits3 (fun HT_ HW_ => ?_)
  generalize w10.drew = w13 at BK421 BK422 HB hHeld ⊢
  refine pure_ (i := 0) (N := some 12) (v := ?_) (a' := ?_) #[true, false, false, false, false, false, false, false, false, false] rfl rfl (any_of HT_.out (by kernel_rfl)) (fun _ _ _ h => h) (Or.inl ⟨by rfl, ?_⟩) ?_ ?_
  rotate_left
  ·intro w'
   go_simp
   with_reducible rfl
  rotate_left
  ·simp only [Act.put, List.setIfInBounds_toArray, List.set_cons_zero, List.set_cons_succ, i64_w, i32_w]
   rfl
  refine pure_ (i := 2) (N := some 14) (v := ?_) (a' := ?_) #[true, false, true, false, false, false, false, false, false, false] rfl rfl (any_of HT_.out (by kernel_rfl)) (fun _ _ _ h => h) (Or.inl ⟨by rfl, ?_⟩) ?_ ?_
  rotate_left
  ·intro w'
   go_simp
   with_reducible rfl
  rotate_left
  ·simp only [Act.put, List.setIfInBounds_toArray, List.set_cons_zero, List.set_cons_succ, i64_w, i32_w]
   rfl
  refine pure_ (i := 4) (N := some 16) (v := ?_) (a' := ?_) #[true, false, true, false, true, false, false, false, false, false] rfl rfl (any_of HT_.out (by kernel_rfl)) (fun _ _ _ h => h) (Or.inl ⟨by rfl, ?_⟩) ?_ ?_
  rotate_left
  ·intro w'
   go_simp
   with_reducible rfl
  rotate_left
  ·simp only [Act.put, List.setIfInBounds_toArray, List.set_cons_zero, List.set_cons_succ, i64_w, i32_w]
   rfl
  refine take_ (i := 1) (N := some 13) (v := ?_) (a' := ?_) #[true, true, true, false, true, false, false, false, false, false] rfl rfl (take_ofW HT_.out HW_.out (by kernel_rfl)) (fun _ _ _ h => h) (Or.inl ⟨by rfl, ?_⟩) hHeld ?_ ?_
  rotate_left
  ·rintro w' ⟨s0, s1, s2, s3⟩
   go_simp
   with_reducible rfl
  rotate_left
  ·simp only [Act.put, List.setIfInBounds_toArray, List.set_cons_zero, List.set_cons_succ, i64_w, i32_w]
   rfl
  refine take_ (i := 3) (N := some 15) (v := ?_) (a' := ?_) #[true, true, true, true, true, false, false, false, false, false] rfl rfl (take_ofW HT_.out HW_.out (by kernel_rfl)) (fun _ _ _ h => h) (Or.inl ⟨by rfl, ?_⟩) hHeld ?_ ?_
  rotate_left
  ·rintro w' ⟨s0, s1, s2, s3⟩
   go_simp
   with_reducible rfl
  rotate_left
  ·simp only [Act.put, List.setIfInBounds_toArray, List.set_cons_zero, List.set_cons_succ, i64_w, i32_w]
   rfl
  refine take_ (i := 5) (N := some 17) (v := ?_) (a' := ?_) #[true, true, true, true, true, true, false, false, false, false] rfl rfl (take_ofW HT_.out HW_.out (by kernel_rfl)) (fun _ _ _ h => h) (Or.inl ⟨by rfl, ?_⟩) hHeld ?_ ?_
  rotate_left
  ·rintro w' ⟨s0, s1, s2, s3⟩
   go_simp
   with_reducible rfl
  rotate_left
  ·simp only [Act.put, List.setIfInBounds_toArray, List.set_cons_zero, List.set_cons_succ, i64_w, i32_w]
   rfl
  refine join_ (σ := Value × Nat) 1 #[true, true, true, true, true, true, true, true, true, false] (fun s_ => [(18, s_.1), (4, .pointer (some ⟨s_.2, 0, none⟩)), (19, .agg #[.int .i64 a0_0, .int .i64 a0_1, s_.1, .slice none 0 0])]) (fun s_ w' => (w'.cell? ⟨gb421, 0, none⟩ = some (.int .i64 a0_0) ∧ w'.cell? ⟨gb421, 1, none⟩ = some (.int .i64 a0_1) ∧ w'.cell? ⟨gb421, 2, none⟩ = some (.slice A0_2 l0_2.length c0_2) ∧ w'.cell? ⟨gb421, 3, none⟩ = some (.slice A0_3 l0_3.length c0_3)) ∧ (Kd.R Kd.bool 4 w' w.heap.size (fun _ => True) s_.1 t423) ∧ (w'.heap[gb421]? = some (.cells #[.int .i64 a0_0, .int .i64 a0_1, .slice A0_2 l0_2.length c0_2, .slice A0_3 l0_3.length c0_3] 74 (0, 0))) ∧ (w'.heap[gb422]? = some (.cells #[.int .i64 0, .int .i64 0, .slice none 0 0, .slice none 0 0] 28 (0, 0))) ∧ (w'.heap[s_.2]? = some (.cells #[.int .i64 0, .int .i64 0, .slice none 0 0, .slice none 0 0] 28 (0, 0))) ∧ (w.heap.size ≤ s_.2) ∧ (w.heap.size ≤ s_.2) ∧ (gb421 ≠ s_.2) ∧ (s_.2 ≠ gb421) ∧ (gb422 ≠ s_.2) ∧ (s_.2 ≠ gb422) ∧ (Below w.heap.size w w')) ?_ ?_
  rotate_left
  ·intro hCont
   refine two_ (i := 6) (j := 8) (Ni := some 18) (Nj := some 4) #[true, true, true, true, true, true, true, false, false, false] #[true, true, true, true, true, true, false, false, true, false] rfl rfl rfl rfl (two_of HT_.out (by kernel_rfl)) (by decide) (by decide) (fun K hK => ?_) (fun K hK => ?_)
   ·skip
    refine goes_ Tryd.func112 (by kernel_rfl) rfl #[.slice A0_2 l0_2.length c0_2] (by rfl) rfl rfl (by (try simp only [List.map_toArray, List.map_cons, List.map_nil]); first | done | rfl | (simp only [List.length_drop, List.length_take]; rfl)) ?_
    with_reducible refine (slices_Clone_bool_bool.calls _ _ l0_2 t423 _ ?side1 ?side2 A8.out).mono ?_
    (case side1 => repeat (first | exact (Kd.C_below HR0_2.out HB.out) | (with_reducible refine Kd.C_alloc ?_ _) | (with_reducible refine Kd.C_drewN ?_ _) | (with_reducible refine Kd.C_drew ?_)))
    (case side2 => exact HC0_2.out)
    rintro e w14 ⟨v424, rfl, ho0, hb⟩
    refine ⟨_, rfl, ?_⟩
    have n0_ := Aside0.mk (Kd.R_lower ho0 (below_size (by repeat (first | (with_reducible first | exact HB.out | apply below_alloc | apply pw_below_drewN | apply below_drew1 | refine below_set ?_ GE421.out | refine below_set ?_ GE422.out) | exact HB.out))))
    have n1_ := Aside0.mk (blk_below (g := gb421) (o := .cells #[.int .i64 a0_0, .int .i64 a0_1, .slice A0_2 l0_2.length c0_2, .slice A0_3 l0_3.length c0_3] 74 (0, 0)) (by (with_reducible repeat (first | refine blk_drewN ?_ _ | refine blk_drew ?_ | refine blk_alloc ?_ _)); exact BK421.out) hb)
    have n2_ := Aside0.mk (blk_below (g := gb422) (o := .cells #[.int .i64 0, .int .i64 0, .slice none 0 0, .slice none 0 0] 28 (0, 0)) (by (with_reducible repeat (first | refine blk_drewN ?_ _ | refine blk_drew ?_ | refine blk_alloc ?_ _)); exact BK422.out) hb)
    have n3_ := Aside0.mk (below_step (by repeat (first | (with_reducible first | exact HB.out | apply below_alloc | apply pw_below_drewN | apply below_drew1 | refine below_set ?_ GE421.out | refine below_set ?_ GE422.out) | exact HB.out)) hb)
    clear BK421
    clear BK422
    clear HB
    have HO425 := n0_
    have BK421 := n1_
    have BK422 := n2_
    have HB := n3_
    clear n0_ n1_ n2_ n3_
    (try clear hb)
    (try clear hb2)
    (try clear hk)
    (try clear hi)
    (try clear ho0)
    obtain ⟨Ao15, co15, eo15⟩ := Kd.R_slice HO425.out
    (first | subst eo15 | (injection eo15 with f1_ f2_ f3_; have f4_ := f1_.symm; have f5_ := f3_.symm; clear f1_ f2_ f3_; subst f4_; subst f5_))
    refine hK.out _ _ ⟨(blk_cell BK421.out 0).trans rfl, (blk_cell BK421.out 1).trans rfl, (blk_cell BK421.out 2).trans rfl, (blk_cell BK421.out 3).trans rfl⟩ (fun hHeld => ?_)
    clear hK K
    refine norm_ (a' := ?_) ?_ ?_
    rotate_left
    ·show Act.put _ (some 18) _ = _
     simp only [Act.put, List.setIfInBounds_toArray, List.set_cons_zero, List.set_cons_succ, i64_w, i32_w]
     rfl
    refine pure_ (i := 7) (N := some 19) (v := ?_) (a' := ?_) #[true, true, true, true, true, true, true, true, false, false] rfl rfl (any_of HT_.out (by kernel_rfl)) (fun _ _ _ h => h) (Or.inl ⟨by rfl, ?_⟩) ?_ ?_
    rotate_left
    ·intro w'
     go_simp
     with_reducible rfl
    rotate_left
    ·simp only [Act.put, List.setIfInBounds_toArray, List.set_cons_zero, List.set_cons_succ, i64_w, i32_w]
     rfl
    refine one_ (i := 8) (N := some 4) #[true, true, true, true, true, true, true, true, true, false] rfl rfl (one_of HT_.out (by kernel_rfl)) (by decide) (fun K hK => ?_)
    refine box_step ?hg (N := 4) ?hd (cs := #[.int .i64 0, .int .i64 0, .slice none 0 0, .slice none 0 0]) (t := 28) ?hr ?_; (case hd => rfl); (case hg => rfl); (case hr => first | (go_simp; done) | (go_simp; rfl))
    intro gb426 hg w16 hbox hb
    have n0_ := Aside0.mk (Kd.R_below (by (with_reducible repeat (first | apply Kd.R_alloc | apply Kd.R_drewN | apply Kd.R_drew)); exact HO425.out) hb)
    have n1_ := Aside0.mk (blk_below (g := gb421) (o := .cells #[.int .i64 a0_0, .int .i64 a0_1, .slice A0_2 l0_2.length c0_2, .slice A0_3 l0_3.length c0_3] 74 (0, 0)) (by (with_reducible repeat (first | refine blk_drewN ?_ _ | refine blk_drew ?_ | refine blk_alloc ?_ _)); exact BK421.out) hb)
    have n2_ := Aside0.mk (blk_below (g := gb422) (o := .cells #[.int .i64 0, .int .i64 0, .slice none 0 0, .slice none 0 0] 28 (0, 0)) (by (with_reducible repeat (first | refine blk_drewN ?_ _ | refine blk_drew ?_ | refine blk_alloc ?_ _)); exact BK422.out) hb)
    have n3_ := Aside0.mk (below_step (by repeat (first | (with_reducible first | exact HB.out | apply below_alloc | apply pw_below_drewN | apply below_drew1 | refine below_set ?_ GE421.out | refine below_set ?_ GE422.out) | exact HB.out)) hb)
    have n4_ := Aside0.mk (hbox)
    have n5_ := Aside0.mk ((by rw [hg]; exact (below_size (by repeat (first | (with_reducible first | exact HB.out | apply below_alloc | apply pw_below_drewN | apply below_drew1 | refine below_set ?_ GE421.out | refine below_set ?_ GE422.out) | exact HB.out))) : w.heap.size ≤ gb426))
    have n6_ := Aside0.mk ((by rw [hg]; exact (below_size (by repeat (first | (with_reducible first | exact HB.out | apply below_alloc | apply pw_below_drewN | apply below_drew1 | refine below_set ?_ GE421.out | refine below_set ?_ GE422.out) | exact HB.out))) : w.heap.size ≤ gb426))
    have n7_ := Aside0.mk ((by rw [hg]; exact Nat.ne_of_lt (blk_lt (g := gb421) (o := .cells #[.int .i64 a0_0, .int .i64 a0_1, .slice A0_2 l0_2.length c0_2, .slice A0_3 l0_3.length c0_3] 74 (0, 0)) (by (with_reducible repeat (first | refine blk_drewN ?_ _ | refine blk_drew ?_ | refine blk_alloc ?_ _)); exact BK421.out)) : gb421 ≠ gb426))
    have n8_ := Aside0.mk ((by rw [hg]; exact Nat.ne_of_gt (blk_lt (g := gb421) (o := .cells #[.int .i64 a0_0, .int .i64 a0_1, .slice A0_2 l0_2.length c0_2, .slice A0_3 l0_3.length c0_3] 74 (0, 0)) (by (with_reducible repeat (first | refine blk_drewN ?_ _ | refine blk_drew ?_ | refine blk_alloc ?_ _)); exact BK421.out)) : gb426 ≠ gb421))
    have n9_ := Aside0.mk ((by rw [hg]; exact Nat.ne_of_lt (blk_lt (g := gb422) (o := .cells #[.int .i64 0, .int .i64 0, .slice none 0 0, .slice none 0 0] 28 (0, 0)) (by (with_reducible repeat (first | refine blk_drewN ?_ _ | refine blk_drew ?_ | refine blk_alloc ?_ _)); exact BK422.out)) : gb422 ≠ gb426))
    have n10_ := Aside0.mk ((by rw [hg]; exact Nat.ne_of_gt (blk_lt (g := gb422) (o := .cells #[.int .i64 0, .int .i64 0, .slice none 0 0, .slice none 0 0] 28 (0, 0)) (by (with_reducible repeat (first | refine blk_drewN ?_ _ | refine blk_drew ?_ | refine blk_alloc ?_ _)); exact BK422.out)) : gb426 ≠ gb422))
    clear HO425
    clear BK421
    clear BK422
    clear HB
    have HO425 := n0_
    have BK421 := n1_
    have BK422 := n2_
    have HB := n3_
    have BK426 := n4_
    have GW426 := n5_
    have GE426 := n6_
    have NB421_426 := n7_
    have NB426_421 := n8_
    have NB422_426 := n9_
    have NB426_422 := n10_
    clear n0_ n1_ n2_ n3_ n4_ n5_ n6_ n7_ n8_ n9_ n10_
    clear hb hbox hg
    refine hK.out _ _ ⟨(blk_cell BK421.out 0).trans rfl, (blk_cell BK421.out 1).trans rfl, (blk_cell BK421.out 2).trans rfl, (blk_cell BK421.out 3).trans rfl⟩ (fun hHeld => ?_)
    clear hK K
    refine norm_ (a' := ?_) ?_ ?_
    rotate_left
    ·show Act.put _ (some 4) _ = _
     simp only [Act.put, List.setIfInBounds_toArray, List.set_cons_zero, List.set_cons_succ, i64_w, i32_w]
     rfl
    exact norm_ (by simp only [putAll, Act.put, List.setIfInBounds_toArray, List.set_cons_zero, List.set_cons_succ]) (hCont (.slice Ao15 t423.length co15, gb426) _ ⟨hHeld, (by (with_reducible repeat (first | apply Kd.R_alloc | apply Kd.R_drewN | apply Kd.R_drew)); exact HO425.out), (by (with_reducible repeat (first | refine blk_drewN ?_ _ | refine blk_drew ?_ | refine blk_alloc ?_ _)); exact BK421.out), (by (with_reducible repeat (first | refine blk_drewN ?_ _ | refine blk_drew ?_ | refine blk_alloc ?_ _)); exact BK422.out), (by (with_reducible repeat (first | refine blk_drewN ?_ _ | refine blk_drew ?_ | refine blk_alloc ?_ _)); exact BK426.out), GW426.out, GE426.out, NB421_426.out, NB426_421.out, NB422_426.out, NB426_422.out, (by repeat (first | (with_reducible first | exact HB.out | apply below_alloc | apply pw_below_drewN | apply below_drew1 | refine below_set ?_ GE421.out | refine below_set ?_ GE422.out | refine below_set ?_ GE426.out) | exact HB.out))⟩)
   ·skip
    refine box_step ?hg (N := 4) ?hd (cs := #[.int .i64 0, .int .i64 0, .slice none 0 0, .slice none 0 0]) (t := 28) ?hr ?_; (case hd => rfl); (case hg => rfl); (case hr => first | (go_simp; done) | (go_simp; rfl))
    intro gb426 hg w14 hbox hb
    have n0_ := Aside0.mk (blk_below (g := gb421) (o := .cells #[.int .i64 a0_0, .int .i64 a0_1, .slice A0_2 l0_2.length c0_2, .slice A0_3 l0_3.length c0_3] 74 (0, 0)) (by (with_reducible repeat (first | refine blk_drewN ?_ _ | refine blk_drew ?_ | refine blk_alloc ?_ _)); exact BK421.out) hb)
    have n1_ := Aside0.mk (blk_below (g := gb422) (o := .cells #[.int .i64 0, .int .i64 0, .slice none 0 0, .slice none 0 0] 28 (0, 0)) (by (with_reducible repeat (first | refine blk_drewN ?_ _ | refine blk_drew ?_ | refine blk_alloc ?_ _)); exact BK422.out) hb)
    have n2_ := Aside0.mk (below_step (by repeat (first | (with_reducible first | exact HB.out | apply below_alloc | apply pw_below_drewN | apply below_drew1 | refine below_set ?_ GE421.out | refine below_set ?_ GE422.out) | exact HB.out)) hb)
    have n3_ := Aside0.mk (hbox)
    have n4_ := Aside0.mk ((by rw [hg]; exact (below_size (by repeat (first | (with_reducible first | exact HB.out | apply below_alloc | apply pw_below_drewN | apply below_drew1 | refine below_set ?_ GE421.out | refine below_set ?_ GE422.out) | exact HB.out))) : w.heap.size ≤ gb426))
    have n5_ := Aside0.mk ((by rw [hg]; exact (below_size (by repeat (first | (with_reducible first | exact HB.out | apply below_alloc | apply pw_below_drewN | apply below_drew1 | refine below_set ?_ GE421.out | refine below_set ?_ GE422.out) | exact HB.out))) : w.heap.size ≤ gb426))
    have n6_ := Aside0.mk ((by rw [hg]; exact Nat.ne_of_lt (blk_lt (g := gb421) (o := .cells #[.int .i64 a0_0, .int .i64 a0_1, .slice A0_2 l0_2.length c0_2, .slice A0_3 l0_3.length c0_3] 74 (0, 0)) (by (with_reducible repeat (first | refine blk_drewN ?_ _ | refine blk_drew ?_ | refine blk_alloc ?_ _)); exact BK421.out)) : gb421 ≠ gb426))
    have n7_ := Aside0.mk ((by rw [hg]; exact Nat.ne_of_gt (blk_lt (g := gb421) (o := .cells #[.int .i64 a0_0, .int .i64 a0_1, .slice A0_2 l0_2.length c0_2, .slice A0_3 l0_3.length c0_3] 74 (0, 0)) (by (with_reducible repeat (first | refine blk_drewN ?_ _ | refine blk_drew ?_ | refine blk_alloc ?_ _)); exact BK421.out)) : gb426 ≠ gb421))
    have n8_ := Aside0.mk ((by rw [hg]; exact Nat.ne_of_lt (blk_lt (g := gb422) (o := .cells #[.int .i64 0, .int .i64 0, .slice none 0 0, .slice none 0 0] 28 (0, 0)) (by (with_reducible repeat (first | refine blk_drewN ?_ _ | refine blk_drew ?_ | refine blk_alloc ?_ _)); exact BK422.out)) : gb422 ≠ gb426))
    have n9_ := Aside0.mk ((by rw [hg]; exact Nat.ne_of_gt (blk_lt (g := gb422) (o := .cells #[.int .i64 0, .int .i64 0, .slice none 0 0, .slice none 0 0] 28 (0, 0)) (by (with_reducible repeat (first | refine blk_drewN ?_ _ | refine blk_drew ?_ | refine blk_alloc ?_ _)); exact BK422.out)) : gb426 ≠ gb422))
    clear BK421
    clear BK422
    clear HB
    have BK421 := n0_
    have BK422 := n1_
    have HB := n2_
    have BK426 := n3_
    have GW426 := n4_
    have GE426 := n5_
    have NB421_426 := n6_
    have NB426_421 := n7_
    have NB422_426 := n8_
    have NB426_422 := n9_
    clear n0_ n1_ n2_ n3_ n4_ n5_ n6_ n7_ n8_ n9_
    clear hb hbox hg
    refine hK.out _ _ ⟨(blk_cell BK421.out 0).trans rfl, (blk_cell BK421.out 1).trans rfl, (blk_cell BK421.out 2).trans rfl, (blk_cell BK421.out 3).trans rfl⟩ (fun hHeld => ?_)
    clear hK K
    refine norm_ (a' := ?_) ?_ ?_
    rotate_left
    ·show Act.put _ (some 4) _ = _
     simp only [Act.put, List.setIfInBounds_toArray, List.set_cons_zero, List.set_cons_succ, i64_w, i32_w]
     rfl
    refine one_ (i := 6) (N := some 18) #[true, true, true, true, true, true, true, false, true, false] rfl rfl (one_of HT_.out (by kernel_rfl)) (by decide) (fun K hK => ?_)
    refine goes_ Tryd.func112 (by kernel_rfl) rfl #[.slice A0_2 l0_2.length c0_2] (by rfl) rfl rfl (by (try simp only [List.map_toArray, List.map_cons, List.map_nil]); first | done | rfl | (simp only [List.length_drop, List.length_take]; rfl)) ?_
    with_reducible refine (slices_Clone_bool_bool.calls _ _ l0_2 t423 _ ?side1 ?side2 A8.out).mono ?_
    (case side1 => repeat (first | exact (Kd.C_below HR0_2.out HB.out) | (with_reducible refine Kd.C_alloc ?_ _) | (with_reducible refine Kd.C_drewN ?_ _) | (with_reducible refine Kd.C_drew ?_)))
    (case side2 => exact HC0_2.out)
    rintro e w15 ⟨v424, rfl, ho0, hb⟩
    refine ⟨_, rfl, ?_⟩
    have n0_ := Aside0.mk (Kd.R_lower ho0 (below_size (by repeat (first | (with_reducible first | exact HB.out | apply below_alloc | apply pw_below_drewN | apply below_drew1 | refine below_set ?_ GE421.out | refine below_set ?_ GE422.out | refine below_set ?_ GE426.out) | exact HB.out))))
    have n1_ := Aside0.mk (blk_below (g := gb421) (o := .cells #[.int .i64 a0_0, .int .i64 a0_1, .slice A0_2 l0_2.length c0_2, .slice A0_3 l0_3.length c0_3] 74 (0, 0)) (by (with_reducible repeat (first | refine blk_drewN ?_ _ | refine blk_drew ?_ | refine blk_alloc ?_ _)); exact BK421.out) hb)
    have n2_ := Aside0.mk (blk_below (g := gb422) (o := .cells #[.int .i64 0, .int .i64 0, .slice none 0 0, .slice none 0 0] 28 (0, 0)) (by (with_reducible repeat (first | refine blk_drewN ?_ _ | refine blk_drew ?_ | refine blk_alloc ?_ _)); exact BK422.out) hb)
    have n3_ := Aside0.mk (blk_below (g := gb426) (o := .cells #[.int .i64 0, .int .i64 0, .slice none 0 0, .slice none 0 0] 28 (0, 0)) (by (with_reducible repeat (first | refine blk_drewN ?_ _ | refine blk_drew ?_ | refine blk_alloc ?_ _)); exact BK426.out) hb)
    have n4_ := Aside0.mk (below_step (by repeat (first | (with_reducible first | exact HB.out | apply below_alloc | apply pw_below_drewN | apply below_drew1 | refine below_set ?_ GE421.out | refine below_set ?_ GE422.out | refine below_set ?_ GE426.out) | exact HB.out)) hb)
    clear BK421
    clear BK422
    clear BK426
    clear HB
    have HO425 := n0_
    have BK421 := n1_
    have BK422 := n2_
    have BK426 := n3_
    have HB := n4_
    clear n0_ n1_ n2_ n3_ n4_
    (try clear hb)
    (try clear hb2)
    (try clear hk)
    (try clear hi)
    (try clear ho0)
    obtain ⟨Ao16, co16, eo16⟩ := Kd.R_slice HO425.out
    (first | subst eo16 | (injection eo16 with f1_ f2_ f3_; have f4_ := f1_.symm; have f5_ := f3_.symm; clear f1_ f2_ f3_; subst f4_; subst f5_))
    refine hK.out _ _ ⟨(blk_cell BK421.out 0).trans rfl, (blk_cell BK421.out 1).trans rfl, (blk_cell BK421.out 2).trans rfl, (blk_cell BK421.out 3).trans rfl⟩ (fun hHeld => ?_)
    clear hK K
    refine norm_ (a' := ?_) ?_ ?_
    rotate_left
    ·show Act.put _ (some 18) _ = _
     simp only [Act.put, List.setIfInBounds_toArray, List.set_cons_zero, List.set_cons_succ, i64_w, i32_w]
     rfl
    refine pure_ (i := 7) (N := some 19) (v := ?_) (a' := ?_) #[true, true, true, true, true, true, true, true, true, false] rfl rfl (any_of HT_.out (by kernel_rfl)) (fun _ _ _ h => h) (Or.inl ⟨by rfl, ?_⟩) ?_ ?_
    rotate_left
    ·intro w'
     go_simp
     with_reducible rfl
    rotate_left
    ·simp only [Act.put, List.setIfInBounds_toArray, List.set_cons_zero, List.set_cons_succ, i64_w, i32_w]
     rfl
    exact norm_ (by simp only [putAll, Act.put, List.setIfInBounds_toArray, List.set_cons_zero, List.set_cons_succ]) (hCont (.slice Ao16 t423.length co16, gb426) _ ⟨hHeld, (by (with_reducible repeat (first | apply Kd.R_alloc | apply Kd.R_drewN | apply Kd.R_drew)); exact HO425.out), (by (with_reducible repeat (first | refine blk_drewN ?_ _ | refine blk_drew ?_ | refine blk_alloc ?_ _)); exact BK421.out), (by (with_reducible repeat (first | refine blk_drewN ?_ _ | refine blk_drew ?_ | refine blk_alloc ?_ _)); exact BK422.out), (by (with_reducible repeat (first | refine blk_drewN ?_ _ | refine blk_drew ?_ | refine blk_alloc ?_ _)); exact BK426.out), GW426.out, GE426.out, NB421_426.out, NB426_421.out, NB422_426.out, NB426_422.out, (by repeat (first | (with_reducible first | exact HB.out | apply below_alloc | apply pw_below_drewN | apply below_drew1 | refine below_set ?_ GE421.out | refine below_set ?_ GE422.out | refine below_set ?_ GE426.out) | exact HB.out))⟩)
  rintro ⟨v424, gb426⟩ w17 ⟨hS_, h0_, h1_, h2_, h3_, h4_, h5_, h6_, h7_, h8_, h9_, h10_⟩
  have n0_ : Aside0 (Kd.R Kd.bool 4 w17 w.heap.size (fun _ => True) v424 t423) := ⟨h0_⟩
  have n1_ : Aside0 (w17.heap[gb421]? = some (.cells #[.int .i64 a0_0, .int .i64 a0_1, .slice A0_2 l0_2.length c0_2, .slice A0_3 l0_3.length c0_3] 74 (0, 0))) := ⟨h1_⟩
  have n2_ : Aside0 (w17.heap[gb422]? = some (.cells #[.int .i64 0, .int .i64 0, .slice none 0 0, .slice none 0 0] 28 (0, 0))) := ⟨h2_⟩
  have n3_ : Aside0 (w17.heap[gb426]? = some (.cells #[.int .i64 0, .int .i64 0, .slice none 0 0, .slice none 0 0] 28 (0, 0))) := ⟨h3_⟩
  have n4_ : Aside0 (w.heap.size ≤ gb426) := ⟨h4_⟩
  have n5_ : Aside0 (w.heap.size ≤ gb426) := ⟨h5_⟩
  have n6_ : Aside0 (gb421 ≠ gb426) := ⟨h6_⟩
  have n7_ : Aside0 (gb426 ≠ gb421) := ⟨h7_⟩
  have n8_ : Aside0 (gb422 ≠ gb426) := ⟨h8_⟩
  have n9_ : Aside0 (gb426 ≠ gb422) := ⟨h9_⟩
  have n10_ : Aside0 (Below w.heap.size w w17) := ⟨h10_⟩
  clear BK421
  clear BK422
  clear HB
  clear h0_ h1_ h2_ h3_ h4_ h5_ h6_ h7_ h8_ h9_ h10_
  have HO425 := n0_
  have BK421 := n1_
  have BK422 := n2_
  have BK426 := n3_
  have GW426 := n4_
  have GE426 := n5_
  have NB421_426 := n6_
  have NB426_421 := n7_
  have NB422_426 := n8_
  have NB426_422 := n9_
  have HB := n10_
  clear n0_ n1_ n2_ n3_ n4_ n5_ n6_ n7_ n8_ n9_ n10_
  have hHeld : w17.cell? ⟨gb421, 0, none⟩ = some (.int .i64 a0_0) ∧ w17.cell? ⟨gb421, 1, none⟩ = some (.int .i64 a0_1) ∧ w17.cell? ⟨gb421, 2, none⟩ = some (.slice A0_2 l0_2.length c0_2) ∧ w17.cell? ⟨gb421, 3, none⟩ = some (.slice A0_3 l0_3.length c0_3) := hS_
  obtain ⟨Ao18, co18, eo18⟩ := Kd.R_slice HO425.out
  (first | subst eo18 | (injection eo18 with f1_ f2_ f3_; have f4_ := f1_.symm; have f5_ := f3_.symm; clear f1_ f2_ f3_; subst f4_; subst f5_))
  refine norm_ (a' := ?_) ?_ ?_
  rotate_left
  ·simp only [putAll, Act.put, List.setIfInBounds_toArray, List.set_cons_zero, List.set_cons_succ]
   rfl
  refine one_ (i := 9) (N := none) #[true, true, true, true, true, true, true, true, true, true] rfl rfl (one_of HT_.out (by kernel_rfl)) (by decide) (fun K hK => ?_)
  have hs19 : w17.cell? ⟨gb426, 0, none⟩ = some (.int .i64 0) := (blk_cell BK426.out 0).trans rfl
  have hfs19 := blk_frozen BK426.out 0
  have hns19_0 := NB421_426.out
  have hns19_1 := NB422_426.out
  have hms19_0 := NB426_421.out
  have hms19_1 := NB426_422.out
  have hs20 : w17.cell? ⟨gb426, 1, none⟩ = some (.int .i64 0) := (blk_cell BK426.out 1).trans rfl
  have hfs20 := blk_frozen BK426.out 1
  have hns20_0 := NB421_426.out
  have hns20_1 := NB422_426.out
  have hms20_0 := NB426_421.out
  have hms20_1 := NB426_422.out
  have hs21 : w17.cell? ⟨gb426, 2, none⟩ = some (.slice none 0 0) := (blk_cell BK426.out 2).trans rfl
  have hfs21 := blk_frozen BK426.out 2
  have hns21_0 := NB421_426.out
  have hns21_1 := NB422_426.out
  have hms21_0 := NB426_421.out
  have hms21_1 := NB426_422.out
  have hs22 : w17.cell? ⟨gb426, 3, none⟩ = some (.slice none 0 0) := (blk_cell BK426.out 3).trans rfl
  have hfs22 := blk_frozen BK426.out 3
  have hns22_0 := NB421_426.out
  have hns22_1 := NB422_426.out
  have hms22_0 := NB426_421.out
  have hms22_1 := NB426_422.out
  refine skip_ (w1 := ?_) (by rfl) rfl ?_ ?_
  rotate_left
  ·go_simp
   rfl
  refine hK.out _ _ ⟨((cell_far (p := ⟨gb426, _, none⟩) NB421_426.out _).trans (((cell_far (p := ⟨gb426, _, none⟩) NB421_426.out _).trans (((cell_far (p := ⟨gb426, _, none⟩) NB421_426.out _).trans (((cell_far (p := ⟨gb426, _, none⟩) NB421_426.out _).trans (hHeld.1)))))))), ((cell_far (p := ⟨gb426, _, none⟩) NB421_426.out _).trans (((cell_far (p := ⟨gb426, _, none⟩) NB421_426.out _).trans (((cell_far (p := ⟨gb426, _, none⟩) NB421_426.out _).trans (((cell_far (p := ⟨gb426, _, none⟩) NB421_426.out _).trans (hHeld.2.1)))))))), ((cell_far (p := ⟨gb426, _, none⟩) NB421_426.out _).trans (((cell_far (p := ⟨gb426, _, none⟩) NB421_426.out _).trans (((cell_far (p := ⟨gb426, _, none⟩) NB421_426.out _).trans (((cell_far (p := ⟨gb426, _, none⟩) NB421_426.out _).trans (hHeld.2.2.1)))))))), ((cell_far (p := ⟨gb426, _, none⟩) NB421_426.out _).trans (((cell_far (p := ⟨gb426, _, none⟩) NB421_426.out _).trans (((cell_far (p := ⟨gb426, _, none⟩) NB421_426.out _).trans (((cell_far (p := ⟨gb426, _, none⟩) NB421_426.out _).trans (hHeld.2.2.2))))))))⟩ (fun hHeld => ?_)
  clear hK K
  refine done_ (done_of HT_.out (by kernel_rfl)) ?_
  have hnb23 := NB421_426.out
  have hnc23 := NB426_421.out
  have hcz24_0 : w17.cell? ⟨gb421, 0, none⟩ = some (.int .i64 a0_0) := (blk_cell BK421.out 0).trans rfl
  have hcz24_1 : w17.cell? ⟨gb421, 1, none⟩ = some (.int .i64 a0_1) := (blk_cell BK421.out 1).trans rfl
  have hcz24_2 : w17.cell? ⟨gb421, 2, none⟩ = some (.slice A0_2 l0_2.length c0_2) := (blk_cell BK421.out 2).trans rfl
  have hcz24_3 : w17.cell? ⟨gb421, 3, none⟩ = some (.slice A0_3 l0_3.length c0_3) := (blk_cell BK421.out 3).trans rfl
  have hfz24_0 := blk_frozen BK421.out 0
  have hfz24_1 := blk_frozen BK421.out 1
  have hfz24_2 := blk_frozen BK421.out 2
  have hfz24_3 := blk_frozen BK421.out 3
  try go_wp2
  go_loopg [23] k (fun kq v23 w' => ∃ (x23_1 : Int) (x427003_1 : List (List Int)) (u427003 : Value), v23 = .int .i64 x23_1 ∧ Aside0 (impl_machine_relationOf.l0 kq l0_3 (l0_3.length : Int) x23_1 a0_0 a0_1 t423 x427003_1 = some (r1, r2, r3, r4, r5)) ∧ Aside0 (kq ≤ k) ∧ Aside0 (Kd.R Kd.bool 4 w' w.heap.size (fun _ => True) (.slice Ao18 t423.length co18) t423) ∧ Aside0 (Kd.S (Kd.slice 2 (Kd.int .i64)) 55 w' w.heap.size (fun _ => True) u427003 x427003_1) ∧ Aside0 (w'.heap[gb421]? = some (.cells #[.int .i64 a0_0, .int .i64 a0_1, (.slice A0_2 l0_2.length c0_2), (.slice A0_3 l0_3.length c0_3)] 74 (0, 0))) ∧ Aside0 (w'.heap[gb422]? = some (.cells #[.int .i64 0, .int .i64 0, (.slice none 0 0), (.slice none 0 0)] 28 (0, 0))) ∧ Aside0 (w'.heap[gb426]? = some (.cells #[.int .i64 a0_0, .int .i64 a0_1, (.slice Ao18 t423.length co18), u427003] 28 (0, 0))) ∧ Aside0 (Below w.heap.size w w'))
  case atStart => exact ⟨(0), (([] : List (List Int))), (.slice none 0 0), (by first | rfl | (simp; done) | (simp [*]; done)), H', ⟨Nat.le_refl _⟩, ⟨by (with_reducible repeat (first | apply Kd.R_alloc | apply Kd.R_drewN | apply Kd.R_drew)); exact Kd.R_mono (Kd.R_far (p := ⟨gb426, 3, none⟩) (Kd.R_far (p := ⟨gb426, 2, none⟩) (Kd.R_far (p := ⟨gb426, 1, none⟩) (Kd.R_far (p := ⟨gb426, 0, none⟩) (Kd.R_types HO425.out BK426.out (by decide)) (fun _ hk => hk.2) (.int .i64 a0_0)) (fun _ hk => hk.2) (.int .i64 a0_1)) (fun _ hk => hk.2) (.slice Ao18 t423.length co18)) (fun _ hk => hk.2) (.slice none 0 0)) (fun _ hk => trivial)⟩, ⟨by first | exact Kd.S_nil _ _ _ _ _ | exact Kd.N_nil _ _ _ _ _ | exact Kd.V_nil _ _ _ _ _ | exact Kd.Q_nil _ _ _ _ _ | exact Kd.R_nil _ _ _ _ _⟩, ⟨by (with_reducible repeat (first | refine blk_drewN ?_ _ | refine blk_drew ?_ | refine blk_alloc ?_ _)); refine blk_far ?_ NB421_426.out _; (with_reducible repeat (first | refine blk_drewN ?_ _ | refine blk_drew ?_ | refine blk_alloc ?_ _)); refine blk_far ?_ NB421_426.out _; (with_reducible repeat (first | refine blk_drewN ?_ _ | refine blk_drew ?_ | refine blk_alloc ?_ _)); refine blk_far ?_ NB421_426.out _; (with_reducible repeat (first | refine blk_drewN ?_ _ | refine blk_drew ?_ | refine blk_alloc ?_ _)); refine blk_far ?_ NB421_426.out _; (with_reducible repeat (first | refine blk_drewN ?_ _ | refine blk_drew ?_ | refine blk_alloc ?_ _)); exact BK421.out⟩, ⟨by (with_reducible repeat (first | refine blk_drewN ?_ _ | refine blk_drew ?_ | refine blk_alloc ?_ _)); refine blk_far ?_ NB422_426.out _; (with_reducible repeat (first | refine blk_drewN ?_ _ | refine blk_drew ?_ | refine blk_alloc ?_ _)); refine blk_far ?_ NB422_426.out _; (with_reducible repeat (first | refine blk_drewN ?_ _ | refine blk_drew ?_ | refine blk_alloc ?_ _)); refine blk_far ?_ NB422_426.out _; (with_reducible repeat (first | refine blk_drewN ?_ _ | refine blk_drew ?_ | refine blk_alloc ?_ _)); refine blk_far ?_ NB422_426.out _; (with_reducible repeat (first | refine blk_drewN ?_ _ | refine blk_drew ?_ | refine blk_alloc ?_ _)); exact BK422.out⟩, ⟨by (with_reducible repeat (first | refine blk_drewN ?_ _ | refine blk_drew ?_ | refine blk_alloc ?_ _)); refine blk_put (cs := #[.int .i64 a0_0, .int .i64 a0_1, .slice Ao18 t423.length co18, .slice none 0 0]) ?_ 3 _ rfl; (with_reducible repeat (first | refine blk_drewN ?_ _ | refine blk_drew ?_ | refine blk_alloc ?_ _)); refine blk_put (cs := #[.int .i64 a0_0, .int .i64 a0_1, .slice none 0 0, .slice none 0 0]) ?_ 2 _ rfl; (with_reducible repeat (first | refine blk_drewN ?_ _ | refine blk_drew ?_ | refine blk_alloc ?_ _)); refine blk_put (cs := #[.int .i64 a0_0, .int .i64 0, .slice none 0 0, .slice none 0 0]) ?_ 1 _ rfl; (with_reducible repeat (first | refine blk_drewN ?_ _ | refine blk_drew ?_ | refine blk_alloc ?_ _)); refine blk_put (cs := #[.int .i64 0, .int .i64 0, .slice none 0 0, .slice none 0 0]) ?_ 0 _ rfl; (with_reducible repeat (first | refine blk_drewN ?_ _ | refine blk_drew ?_ | refine blk_alloc ?_ _)); exact BK426.out⟩, ⟨by repeat (first | (with_reducible first | exact HB.out | apply below_alloc | apply pw_below_drewN | apply below_drew1 | refine below_set ?_ GE421.out | refine below_set ?_ GE422.out | refine below_set ?_ GE426.out) | exact HB.out)⟩⟩
  case round =>
   clear H'
   try clear c1
   try clear c2
   try clear c2b0
   try clear c2b1
   try clear p2
   try clear c5
   try clear c11
   try clear c12
   try clear c23
   try clear hcz12_0
   try clear hcz12_1
   try clear hcz12_2
   try clear hcz12_3
   try clear hcz24_0
   try clear hcz24_1
   try clear hcz24_2
   try clear hcz24_3
   try clear hcz6_0
   try clear hcz6_1
   try clear hcz6_2
   try clear hcz6_3
   try clear hcz7_0
   try clear hcz7_1
   try clear hcz7_2
   try clear hcz7_3
   try clear hfz12_0
   try clear hfz12_1
   try clear hfz12_2
   try clear hfz12_3
   try clear hfz24_0
   try clear hfz24_1
   try clear hfz24_2
   try clear hfz24_3
   try clear hfz6_0
   try clear hfz6_1
   try clear hfz6_2
   try clear hfz6_3
   try clear hfz7_0
   try clear hfz7_1
   try clear hfz7_2
   try clear hfz7_3
   obtain ⟨x23_1, x427003_1, u427003, rfl, HA, HK1, HO_427002, HO_427003, BK421, BK422, BK426, HB⟩ := hrel
   cases gk with
   | zero => exact absurd HA.out (by simp [impl_machine_relationOf.l0])
   | succ k1 =>
    have H := HA.out
    clear HA
    simp only [impl_machine_relationOf.l0] at H
    by_cases c25 : x23_1 < (l0_3.length : Int)
    ·rw [if_pos c25] at H
     have c25b0 : decide (x23_1 < (l0_3.length : Int)) = true := decide_eq_true c25
     clear c25
     by_cases c26 : 0 ≤ x23_1
     ·rw [if_pos c26] at H
      have c26b0 : decide (0 ≤ x23_1) = true := decide_eq_true c26
      clear c26
      by_cases c27 : x23_1 < (l0_3.length : Int)
      ·rw [if_pos c27] at H
       have c27b0 : decide (x23_1 < (l0_3.length : Int)) = true := decide_eq_true c27
       clear c27
       replace H := Option.bind_eq_some_iff.mp H
       obtain ⟨t428, A280, H⟩ := H
       replace H : (if x427003_1.length < 5864062014805 then (impl_machine_relationOf.l0 k1 l0_3 (l0_3.length : Int) (wrap64 (x23_1 + 1)) a0_0 a0_1 t423 (x427003_1 ++ [t428])) else (none)) = some (r1, r2, r3, r4, r5) := H
       have A28 := Aside0.mk A280
       clear A280
       by_cases c29 : x427003_1.length < 5864062014805
       ·rw [if_pos c29] at H
        have LMc29 := Aside0.mk c29
        clear c29
        obtain ⟨y431, hy431⟩ : ∃ y_ : List (List Int), y_ = (x427003_1 ++ [t428]) := ⟨_, rfl⟩
        replace H : (impl_machine_relationOf.l0 k1 l0_3 (l0_3.length : Int) (wrap64 (x23_1 + 1)) a0_0 a0_1 t423 y431) = some (r1, r2, r3, r4, r5) := by first | (rw [hy431]; with_reducible exact H) | (have H2_ := (Option.bind_some _ _).symm.trans H; rw [hy431]; with_reducible exact H2_) | (have H2_ := (Option.bind_some _ _).symm.trans H; with_reducible exact H2_) | with_reducible exact H | (rw [hy431]; exact H) | exact H
        have Ny431 := Aside0.mk hy431
        clear hy431
        have H' := Aside0.mk H
        clear H
        have p427 : 0 ≤ (x23_1 : Int) := of_decide_eq_true (by first | (with_reducible assumption) | assumption)
        have q427 : x23_1 < (l0_3.length : Int) := of_decide_eq_true (by first | (with_reducible assumption) | assumption)
        obtain ⟨ad427, A427_0, c427_0, e427, hx427_0, hl427_0, hi427_0⟩ := at_L7 HR0_3.out x23_1 p427 q427
        cases e427
        replace hx427_0 := (HB.out.cell (World.block_lt_of_cell? w _ hx427_0)).trans hx427_0
        have HR427_0 := Aside0.mk hi427_0
        have HC427_0 := Aside0.mk hl427_0
        clear hi427_0 hl427_0
        replace p427 := eq_true p427
        replace q427 := eq_true q427
        try go_wp2
        have n0_ := Aside0.mk (Kd.R_drew HO_427002.out)
        have n1_ := Aside0.mk (Kd.S_drew HO_427003.out)
        have n2_ := Aside0.mk (blk_drew BK421.out)
        have n3_ := Aside0.mk (blk_drew BK422.out)
        have n4_ := Aside0.mk (blk_drew BK426.out)
        have n5_ := Aside0.mk (below_drew1 HB.out)
        clear HO_427002
        clear HO_427003
        clear BK421
        clear BK422
        clear BK426
        clear HB
        have HO_427002 := n0_
        have HO_427003 := n1_
        have BK421 := n2_
        have BK422 := n3_
        have BK426 := n4_
        have HB := n5_
        clear n0_ n1_ n2_ n3_ n4_ n5_
        refine start_ (n := 8) (S := fun w' => w'.cell? ⟨gb426, 0, none⟩ = some (.int .i64 a0_0) ∧ w'.cell? ⟨gb426, 1, none⟩ = some (.int .i64 a0_1) ∧ w'.cell? ⟨gb426, 2, none⟩ = some (.slice Ao18 t423.length co18) ∧ w'.cell? ⟨gb426, 3, none⟩ = some (u427003)) (ds := [7]) #[false, false, false, false, false, false, false, false] (by kernel_rfl) rfl rfl ⟨(blk_cell BK426.out 0).trans rfl, (blk_cell BK426.out 1).trans rfl, (blk_cell BK426.out 2).trans rfl, (blk_cell BK426.out 3).trans rfl⟩ (fun hHeld => ?_); refine with_tabW impl_machine_relationOf.tab7 impl_machine_relationOf.bits7 (fun HT_ HW_ => ?_)
        generalize wr.drew = w30 at HO_427002 HO_427003 BK421 BK422 BK426 HB hHeld ⊢
        refine pure_ (i := 0) (N := some 27) (v := ?_) (a' := ?_) #[true, false, false, false, false, false, false, false] rfl rfl (any_of HT_.out (by kernel_rfl)) (fun _ _ _ h => h) (Or.inl ⟨by rfl, ?_⟩) ?_ ?_
        rotate_left
        ·intro w'
         go_simp
         with_reducible rfl
        rotate_left
        ·simp only [Act.put, List.setIfInBounds_toArray, List.set_cons_zero, List.set_cons_succ, i64_w, i32_w]
         rfl
        refine pure_ (i := 2) (N := some 29) (v := ?_) (a' := ?_) #[true, false, true, false, false, false, false, false] rfl rfl (any_of HT_.out (by kernel_rfl)) (fun _ _ _ h => h) (Or.inl ⟨by rfl, ?_⟩) ?_ ?_
        rotate_left
        ·intro w'
         go_simp
         with_reducible rfl
        rotate_left
        ·simp only [Act.put, List.setIfInBounds_toArray, List.set_cons_zero, List.set_cons_succ, i64_w, i32_w]
         rfl
        refine take_ (i := 1) (N := some 28) (v := ?_) (a' := ?_) #[true, true, true, false, false, false, false, false] rfl rfl (take_ofW HT_.out HW_.out (by kernel_rfl)) (fun _ _ _ h => h) (Or.inl ⟨by rfl, ?_⟩) hHeld ?_ ?_
        rotate_left
        ·rintro w' ⟨s0, s1, s2, s3⟩
         go_simp
         with_reducible rfl
        rotate_left
        ·simp only [Act.put, List.setIfInBounds_toArray, List.set_cons_zero, List.set_cons_succ, i64_w, i32_w]
         rfl
        refine one_ (i := 3) (N := some 30) #[true, true, true, true, false, false, false, false] rfl rfl (one_of HT_.out (by kernel_rfl)) (by decide) (fun K hK => ?_)
        refine goes_ Tryd.func149 (by kernel_rfl) rfl #[.slice A427_0 (rd_L7 l0_3 x23_1).length c427_0] (by rfl) rfl rfl (by (try simp only [List.map_toArray, List.map_cons, List.map_nil]); first | done | rfl | (simp only [List.length_drop, List.length_take]; rfl)) ?_
        with_reducible refine (impl_asLongs.calls k1 _ _ (rd_L7 l0_3 x23_1) t428 _ ?side1 ?side2 A28.out).mono ?_
        (case side1 => repeat (first | exact (Kd.C_below HR427_0.out HB.out) | (with_reducible refine Kd.C_alloc ?_ _) | (with_reducible refine Kd.C_drewN ?_ _) | (with_reducible refine Kd.C_drew ?_)))
        (case side2 => exact HC427_0.out)
        rintro e w31 ⟨v429, rfl, ho0, hb⟩
        refine ⟨_, rfl, ?_⟩
        have n0_ := Aside0.mk (Kd.R_below (by (with_reducible repeat (first | apply Kd.R_alloc | apply Kd.R_drewN | apply Kd.R_drew)); exact HO_427002.out) hb)
        have n1_ := Aside0.mk (Kd.S_elder' (by (with_reducible repeat (first | apply Kd.S_alloc | apply Kd.S_drewN | apply Kd.S_drew)); exact HO_427003.out) (Kd.R_base ho0) hb)
        have n2_ := Aside0.mk (Kd.R_lower ho0 (below_size (by repeat (first | (with_reducible first | exact HB.out | apply below_alloc | apply pw_below_drewN | apply below_drew1 | refine below_set ?_ GE421.out | refine below_set ?_ GE422.out | refine below_set ?_ GE426.out) | exact HB.out))))
        have n3_ := Aside0.mk (blk_below (g := gb421) (o := .cells #[.int .i64 a0_0, .int .i64 a0_1, .slice A0_2 l0_2.length c0_2, .slice (some ad427) l0_3.length c0_3] 74 (0, 0)) (by (with_reducible repeat (first | refine blk_drewN ?_ _ | refine blk_drew ?_ | refine blk_alloc ?_ _)); exact BK421.out) hb)
        have n4_ := Aside0.mk (blk_below (g := gb422) (o := .cells #[.int .i64 0, .int .i64 0, .slice none 0 0, .slice none 0 0] 28 (0, 0)) (by (with_reducible repeat (first | refine blk_drewN ?_ _ | refine blk_drew ?_ | refine blk_alloc ?_ _)); exact BK422.out) hb)
        have n5_ := Aside0.mk (blk_below (g := gb426) (o := .cells #[.int .i64 a0_0, .int .i64 a0_1, .slice Ao18 t423.length co18, u427003] 28 (0, 0)) (by (with_reducible repeat (first | refine blk_drewN ?_ _ | refine blk_drew ?_ | refine blk_alloc ?_ _)); exact BK426.out) hb)
        have n6_ := Aside0.mk (below_step (by repeat (first | (with_reducible first | exact HB.out | apply below_alloc | apply pw_below_drewN | apply below_drew1 | refine below_set ?_ GE421.out | refine below_set ?_ GE422.out | refine below_set ?_ GE426.out) | exact HB.out)) hb)
        clear HO_427002
        clear HO_427003
        clear BK421
        clear BK422
        clear BK426
        clear HB
        have HO_427002 := n0_
        have HO_427003 := n1_
        have HO430 := n2_
        have BK421 := n3_
        have BK422 := n4_
        have BK426 := n5_
        have HB := n6_
        clear n0_ n1_ n2_ n3_ n4_ n5_ n6_
        (try clear hb)
        (try clear hb2)
        (try clear hk)
        (try clear hi)
        (try clear ho0)
        obtain ⟨Ao33, co33, eo33⟩ := Kd.R_slice HO430.out
        (first | subst eo33 | (injection eo33 with f1_ f2_ f3_; have f4_ := f1_.symm; have f5_ := f3_.symm; clear f1_ f2_ f3_; subst f4_; subst f5_))
        refine hK.out _ _ ⟨(blk_cell BK426.out 0).trans rfl, (blk_cell BK426.out 1).trans rfl, (blk_cell BK426.out 2).trans rfl, (blk_cell BK426.out 3).trans rfl⟩ (fun hHeld => ?_)
        clear hK K
        refine norm_ (a' := ?_) ?_ ?_
        rotate_left
        ·show Act.put _ (some 30) _ = _
         simp only [Act.put, List.setIfInBounds_toArray, List.set_cons_zero, List.set_cons_succ, i64_w, i32_w]
         rfl
        refine one_ (i := 4) (N := some 31) #[true, true, true, true, true, false, false, false] rfl rfl (one_of HT_.out (by kernel_rfl)) (by decide) (fun K hK => ?_)
        refine value_ (w1 := ?_) (v := ?_) (by rfl) rfl ?_ ?_
        rotate_left 2
        ·go_simp
         constructor
         ·rfl
         ·rfl
        refine hK.out _ _ ⟨(blk_cell (blk_alloc BK426.out _) 0).trans rfl, (blk_cell (blk_alloc BK426.out _) 1).trans rfl, (blk_cell (blk_alloc BK426.out _) 2).trans rfl, (blk_cell (blk_alloc BK426.out _) 3).trans rfl⟩ (fun hHeld => ?_)
        clear hK K
        refine norm_ (a' := ?_) ?_ ?_
        rotate_left
        ·show Act.put _ (some 31) _ = _
         simp only [Act.put, List.setIfInBounds_toArray, List.set_cons_zero, List.set_cons_succ, i64_w, i32_w]
         rfl
        refine one_ (i := 5) (N := some 32) #[true, true, true, true, true, true, false, false] rfl rfl (one_of HT_.out (by kernel_rfl)) (by decide) (fun K hK => ?_)
        refine Kd.S_append_step (Kd.slice 2 (Kd.int .i64)) (w0 := w) w.heap.size (by rfl) (.tmp 28) (.tmp 31) 23 55 (.slice none 0 0) 24 rfl Tryd.underlying23 info55 rfl (by decide) (by omega) u427003 x427003_1 t428 [.slice Ao33 t428.length co33] (fun _ => True) (fun k_ => some k_ = (.slice Ao33 t428.length co33 : Value).ownBlock) rfl rfl ?aP (fun k_ hk_ => ((Kd.R_mono (ok' := fun k_ => ((fun _ => True)) k_ ∧ some k_ ≠ (u427003 : Value).ownBlock) (Kd.R_apart' (HO430.out) (Kd.S_typed HO_427003.out) (by decide)) (fun k_ hk => ⟨trivial, hk.2⟩))).1 k_ hk_.symm) ?aF ?aO ?aB ?aS ?aL ?_
        (case aP => exact Kd.M_row (Kd.R_mono (Kd.R_tight rfl (Kd.R_mono (ok' := fun k_ => ((fun _ => True)) k_ ∧ some k_ ≠ (u427003 : Value).ownBlock) (Kd.R_apart' (HO430.out) (Kd.S_typed HO_427003.out) (by decide)) (fun k_ hk => ⟨trivial, hk.2⟩))) (fun _ h_ => h_)))
        (case aB => exact (by repeat (first | (with_reducible first | exact HB.out | apply below_alloc | apply pw_below_drewN | apply below_drew1 | refine below_set ?_ GE421.out | refine below_set ?_ GE422.out | refine below_set ?_ GE426.out) | exact HB.out)))
        (case aF => exact (fun _ _ => trivial))
        (case aO => exact (by (with_reducible repeat (first | apply Kd.S_alloc | apply Kd.S_drewN | apply Kd.S_drew)); exact Kd.S_mono HO_427003.out (fun k_ hk => ⟨trivial, fun e_ => hk.2 e_⟩)))
        (case aS => exact (below_size (by repeat (first | (with_reducible first | exact HB.out | apply below_alloc | apply pw_below_drewN | apply below_drew1 | refine below_set ?_ GE421.out | refine below_set ?_ GE422.out | refine below_set ?_ GE426.out) | exact HB.out))))
        (case aL => have := LMc29.out; omega)
        intro v432 w32 ho hb hg hat
        rw [← Ny431.out] at ho
        have n0_ := Aside0.mk (Kd.R_over' (by (with_reducible repeat (first | apply Kd.R_alloc | apply Kd.R_drewN | apply Kd.R_drew)); exact HO_427002.out) (Kd.S_typed (by (with_reducible repeat (first | apply Kd.S_alloc | apply Kd.S_drewN | apply Kd.S_drew)); exact HO_427003.out)) (by decide) hg)
        have n1_ := Aside0.mk (blk_grown (g := gb421) (o := .cells #[.int .i64 a0_0, .int .i64 a0_1, .slice A0_2 l0_2.length c0_2, .slice (some ad427) l0_3.length c0_3] 74 (0, 0)) (by (with_reducible repeat (first | refine blk_drewN ?_ _ | refine blk_drew ?_ | refine blk_alloc ?_ _)); exact BK421.out) hg (Kd.S_ne HO_427003.out BK421.out (by decide)))
        have n2_ := Aside0.mk (blk_grown (g := gb422) (o := .cells #[.int .i64 0, .int .i64 0, .slice none 0 0, .slice none 0 0] 28 (0, 0)) (by (with_reducible repeat (first | refine blk_drewN ?_ _ | refine blk_drew ?_ | refine blk_alloc ?_ _)); exact BK422.out) hg (Kd.S_ne HO_427003.out BK422.out (by decide)))
        have n3_ := Aside0.mk (blk_grown (g := gb426) (o := .cells #[.int .i64 a0_0, .int .i64 a0_1, .slice Ao18 t423.length co18, u427003] 28 (0, 0)) (by (with_reducible repeat (first | refine blk_drewN ?_ _ | refine blk_drew ?_ | refine blk_alloc ?_ _)); exact BK426.out) hg (Kd.S_ne HO_427003.out BK426.out (by decide)))
        have n4_ := Aside0.mk (hb)
        have n5_ := Aside0.mk (ho)
        clear HO_427002
        clear BK421
        clear BK422
        clear BK426
        clear HB
        clear HO_427003
        clear HO430
        have HO_427002 := n0_
        have BK421 := n1_
        have BK422 := n2_
        have BK426 := n3_
        have HB := n4_
        have HO433 := n5_
        clear n0_ n1_ n2_ n3_ n4_ n5_
        clear ho hb hg hat
        obtain ⟨Ao34, co34, eo34⟩ := Kd.S_slice HO433.out
        (first | subst eo34 | (injection eo34 with f1_ f2_ f3_; have f4_ := f1_.symm; have f5_ := f3_.symm; clear f1_ f2_ f3_; subst f4_; subst f5_))
        refine hK.out _ _ ⟨(blk_cell BK426.out 0).trans rfl, (blk_cell BK426.out 1).trans rfl, (blk_cell BK426.out 2).trans rfl, (blk_cell BK426.out 3).trans rfl⟩ (fun hHeld => ?_)
        clear hK K
        refine norm_ (a' := ?_) ?_ ?_
        rotate_left
        ·show Act.put _ (some 32) _ = _
         simp only [Act.put, List.setIfInBounds_toArray, List.set_cons_zero, List.set_cons_succ, i64_w, i32_w]
         rfl
        refine pure_ (i := 6) (N := some 33) (v := ?_) (a' := ?_) #[true, true, true, true, true, true, true, false] rfl rfl (any_of HT_.out (by kernel_rfl)) (fun _ _ _ h => h) (Or.inl ⟨by rfl, ?_⟩) ?_ ?_
        rotate_left
        ·intro w'
         go_simp
         with_reducible rfl
        rotate_left
        ·simp only [Act.put, List.setIfInBounds_toArray, List.set_cons_zero, List.set_cons_succ, i64_w, i32_w]
         rfl
        refine last_ (i := 7) (N := none) #[true, true, true, true, true, true, true, true] rfl rfl (one_of HT_.out (by kernel_rfl)) (by decide) (fun K hK => ?_)
        have hs35 : w32.cell? ⟨gb426, 3, none⟩ = some (u427003) := (blk_cell BK426.out 3).trans rfl
        have hfs35 := blk_frozen BK426.out 3
        have hns35_0 := NB421_426.out
        have hns35_1 := NB422_426.out
        have hms35_0 := NB426_421.out
        have hms35_1 := NB426_422.out
        refine skip_ (w1 := ?_) (by rfl) rfl ?_ ?_
        rotate_left
        ·go_simp
         rfl
        refine hK.out _ _ ?_
        clear hK K
        refine done_ (done_of HT_.out (by kernel_rfl)) ?_
        try go_wp2
        go_roundg k1
        case measure => have := HK1.out; omega
        case rel => exact ⟨(wrap64 (x23_1 + 1)), (y431), (.slice Ao34 y431.length co34), (by first | rfl | (simp; done) | (simp [*]; done)), H', ⟨by have := HK1.out; omega⟩, ⟨by (with_reducible repeat (first | apply Kd.R_alloc | apply Kd.R_drewN | apply Kd.R_drew)); exact Kd.R_mono (Kd.R_far (p := ⟨gb426, 3, none⟩) (Kd.R_types HO_427002.out BK426.out (by decide)) (fun _ hk => hk.2) (.slice Ao34 y431.length co34)) (fun _ hk => trivial)⟩, ⟨by (with_reducible repeat (first | apply Kd.S_alloc | apply Kd.S_drewN | apply Kd.S_drew)); exact Kd.S_mono (Kd.S_far (p := ⟨gb426, 3, none⟩) (Kd.S_types HO433.out BK426.out (by decide)) (fun _ hk => hk.2) (.slice Ao34 y431.length co34)) (fun _ hk => trivial)⟩, ⟨by (with_reducible repeat (first | refine blk_drewN ?_ _ | refine blk_drew ?_ | refine blk_alloc ?_ _)); refine blk_far ?_ NB421_426.out _; (with_reducible repeat (first | refine blk_drewN ?_ _ | refine blk_drew ?_ | refine blk_alloc ?_ _)); exact BK421.out⟩, ⟨by (with_reducible repeat (first | refine blk_drewN ?_ _ | refine blk_drew ?_ | refine blk_alloc ?_ _)); refine blk_far ?_ NB422_426.out _; (with_reducible repeat (first | refine blk_drewN ?_ _ | refine blk_drew ?_ | refine blk_alloc ?_ _)); exact BK422.out⟩, ⟨by (with_reducible repeat (first | refine blk_drewN ?_ _ | refine blk_drew ?_ | refine blk_alloc ?_ _)); refine blk_put (cs := #[.int .i64 a0_0, .int .i64 a0_1, .slice Ao18 t423.length co18, u427003]) ?_ 3 _ rfl; (with_reducible repeat (first | refine blk_drewN ?_ _ | refine blk_drew ?_ | refine blk_alloc ?_ _)); exact BK426.out⟩, ⟨by repeat (first | (with_reducible first | exact HB.out | apply below_alloc | apply pw_below_drewN | apply below_drew1 | refine below_set ?_ GE421.out | refine below_set ?_ GE422.out | refine below_set ?_ GE426.out) | exact HB.out)⟩⟩
       ·rw [if_neg c29] at H
        exact absurd H (by simp)
      ·rw [if_neg c27] at H
       exact absurd H (by simp)
     ·rw [if_neg c26] at H
      exact absurd H (by simp)
    ·rw [if_neg c25] at H
     have c25b0 : decide (x23_1 < (l0_3.length : Int)) = false := decide_eq_false c25
     clear c25
     simp only [Option.some.injEq, Prod.mk.injEq] at H
     obtain ⟨rfl, rfl, rfl, rfl, rfl⟩ := H
     have hnb36 := NB426_421.out
     have hnc36 := NB421_426.out
     have hnb37 := NB426_422.out
     have hnc37 := NB422_426.out
     have hcz38_0 : wr.cell? ⟨gb426, 0, none⟩ = some (.int .i64 a0_0) := (blk_cell BK426.out 0).trans rfl
     have hcz38_1 : wr.cell? ⟨gb426, 1, none⟩ = some (.int .i64 a0_1) := (blk_cell BK426.out 1).trans rfl
     have hcz38_2 : wr.cell? ⟨gb426, 2, none⟩ = some (.slice Ao18 t423.length co18) := (blk_cell BK426.out 2).trans rfl
     have hcz38_3 : wr.cell? ⟨gb426, 3, none⟩ = some (u427003) := (blk_cell BK426.out 3).trans rfl
     have hfz38_0 := blk_frozen BK426.out 0
     have hfz38_1 := blk_frozen BK426.out 1
     have hfz38_2 := blk_frozen BK426.out 2
     have hfz38_3 := blk_frozen BK426.out 3
     have hnb39 := NB422_421.out
     have hnc39 := NB421_422.out
     have hcz40_0 : wr.cell? ⟨gb422, 0, none⟩ = some (.int .i64 0) := (blk_cell BK422.out 0).trans rfl
     have hcz40_1 : wr.cell? ⟨gb422, 1, none⟩ = some (.int .i64 0) := (blk_cell BK422.out 1).trans rfl
     have hcz40_2 : wr.cell? ⟨gb422, 2, none⟩ = some (.slice none 0 0) := (blk_cell BK422.out 2).trans rfl
     have hcz40_3 : wr.cell? ⟨gb422, 3, none⟩ = some (.slice none 0 0) := (blk_cell BK422.out 3).trans rfl
     have hfz40_0 := blk_frozen BK422.out 0
     have hfz40_1 := blk_frozen BK422.out 1
     have hfz40_2 := blk_frozen BK422.out 2
     have hfz40_3 := blk_frozen BK422.out 3
     obtain ⟨Ao41, co41, eo41⟩ := Kd.S_slice HO_427003.out
     subst eo41
     go_wp2
     refine bodyPost_ret (results_ct rfl _ _ gb422 28 #[.int .i64 a0_0, .int .i64 a0_1, .slice Ao18 t423.length co18, .slice Ao41 x427003_1.length co41] (0, 0) _ rfl (by (with_reducible repeat (first | refine blk_drewN ?_ _ | refine blk_drew ?_ | refine blk_alloc ?_ _)); refine blk_put (cs := #[.int .i64 a0_0, .int .i64 a0_1, .slice Ao18 t423.length co18, .slice none 0 0]) ?_ 3 _ rfl; (with_reducible repeat (first | refine blk_drewN ?_ _ | refine blk_drew ?_ | refine blk_alloc ?_ _)); refine blk_put (cs := #[.int .i64 a0_0, .int .i64 a0_1, .slice none 0 0, .slice none 0 0]) ?_ 2 _ rfl; (with_reducible repeat (first | refine blk_drewN ?_ _ | refine blk_drew ?_ | refine blk_alloc ?_ _)); refine blk_put (cs := #[.int .i64 a0_0, .int .i64 0, .slice none 0 0, .slice none 0 0]) ?_ 1 _ rfl; (with_reducible repeat (first | refine blk_drewN ?_ _ | refine blk_drew ?_ | refine blk_alloc ?_ _)); refine blk_put (cs := #[.int .i64 0, .int .i64 0, .slice none 0 0, .slice none 0 0]) ?_ 0 _ rfl; (with_reducible repeat (first | refine blk_drewN ?_ _ | refine blk_drew ?_ | refine blk_alloc ?_ _)); exact BK422.out) Tryd.underlying28 rfl (by kernel_rfl)) rfl ?_
     exact ⟨_, _, by first | rfl | (simp [errW_none, errW_some] <;> rfl) | (simp [*, errW_none, errW_some] <;> rfl), by (with_reducible repeat (first | apply Kd.R_alloc | apply Kd.R_drewN | apply Kd.R_drew)); exact Kd.R_mono (Kd.R_far (p := ⟨gb422, 3, none⟩) (Kd.R_far (p := ⟨gb422, 2, none⟩) (Kd.R_far (p := ⟨gb422, 1, none⟩) (Kd.R_far (p := ⟨gb422, 0, none⟩) (Kd.R_types HO_427002.out BK422.out (by decide)) (fun _ hk => hk.2) (.int .i64 a0_0)) (fun _ hk => hk.2) (.int .i64 a0_1)) (fun _ hk => hk.2) (.slice Ao18 t423.length co18)) (fun _ hk => hk.2) (.slice Ao41 x427003_1.length co41)) (fun _ hk => trivial), by (with_reducible repeat (first | apply Kd.S_alloc | apply Kd.S_drewN | apply Kd.S_drew)); exact Kd.S_mono (Kd.S_far (p := ⟨gb422, 3, none⟩) (Kd.S_far (p := ⟨gb422, 2, none⟩) (Kd.S_far (p := ⟨gb422, 1, none⟩) (Kd.S_far (p := ⟨gb422, 0, none⟩) (Kd.S_types HO_427003.out BK422.out (by decide)) (fun _ hk => hk.2) (.int .i64 a0_0)) (fun _ hk => hk.2) (.int .i64 a0_1)) (fun _ hk => hk.2) (.slice Ao18 t423.length co18)) (fun _ hk => hk.2) (.slice Ao41 x427003_1.length co41)) (fun _ hk => trivial), by repeat (first | (with_reducible first | exact HB.out | apply below_alloc | apply pw_below_drewN | apply below_drew1 | refine below_set ?_ GE421.out | refine below_set ?_ GE422.out | refine below_set ?_ GE426.out) | exact HB.out)⟩
end Go.Proofs.YtbkcllfgolmloaaDoor.X

-- Written by a program of this claim's author, out of the translation.
namespace Go.Proofs.YtbkcllfgolmloaaDoor.X
open Go.RowKit Go.Proofs.YtbkcllfgolmloaaDoorW.PrintWords Go.Proofs.YtbkcllfgolmloaaDoorW.PrintLast Go.Proofs.YtbkcllfgolmloaaDoorW.PrintMore
attribute [local go_sem] max2_int min2_int max_two min_two max_three min_three max_four min_four   -- for this text's walks alone
set_option linter.unusedVariables false
set_option linter.unusedSimpArgs false
def impl_machine_tidied.f (k : Nat) (a0_0 : Int) (a0_1 : Int) (l0_2 : List Bool) (l0_3 : List (List Int)) : Option (Int × Int × List Bool × (List (List Int)) × Int) := (impl_machine_tidy.f k a0_0 a0_1 l0_2 l0_3).bind fun bt436 => ((impl_machine_relationOf.f k bt436.1 bt436.2.1 bt436.2.2.1 bt436.2.2.2).bind fun bt444 => (some (bt444.1, bt444.2.1, bt444.2.2.1, bt444.2.2.2.1, bt444.2.2.2.2)))
set_option maxHeartbeats 8000000 in
set_option maxRecDepth 100000 in
theorem impl_machine_tidied.calls (k : Nat) (a0_0 : Int) (a0_1 : Int) (A0_2 : Option Addr) (c0_2 : Nat) (l0_2 : List Bool) (A0_3 : Option Addr) (c0_3 : Nat) (l0_3 : List (List Int)) (r1 : Int) (r2 : Int) (r3 : List Bool) (r4 : List (List Int)) (r5 : Int) (w : World) (htab : TabOK w) (hr0_2 : Kd.C Kd.bool w A0_2 l0_2.length l0_2) (hc0_2 : l0_2.length ≤ c0_2) (hr0_3 : Kd.C (Kd.slice 3 (Kd.int .i64)) w A0_3 l0_3.length l0_3) (hc0_3 : l0_3.length ≤ c0_3) (h : impl_machine_tidied.f k a0_0 a0_1 l0_2 l0_3 = some (r1, r2, r3, r4, r5)) :
  Calls Tryd.prog 88 #[.agg #[.int .i64 a0_0, .int .i64 a0_1, .slice A0_2 l0_2.length c0_2, .slice A0_3 l0_3.length c0_3]] w fun e w' => ∃ v2_ v3_ : Value, e = .returned (.tuple #[.agg #[.int .i64 r1, .int .i64 r2, v2_, v3_], .int .i64 r5]) ∧ Kd.R Kd.bool 4 w' w.heap.size (fun _ => True) v2_ r3 ∧ Kd.S (Kd.slice 2 (Kd.int .i64)) 55 w' w.heap.size (fun _ => True) v3_ r4 ∧ Below w.heap.size w w' := by
 have HTab := Aside0.mk htab
 clear htab
 have hu74 := Tryd.underlying74
 have hu28 := Tryd.underlying28
 have HR0_2 := Aside0.mk hr0_2
 have HC0_2 := Aside0.mk hc0_2
 clear hr0_2 hc0_2
 have HR0_3 := Aside0.mk hr0_3
 have HC0_3 := Aside0.mk hc0_3
 clear hr0_3 hc0_3
 have HB := Aside0.mk (Below.refl w.heap.size w)
 have H : ((impl_machine_tidy.f k a0_0 a0_1 l0_2 l0_3).bind fun bt436 => ((impl_machine_relationOf.f k bt436.1 bt436.2.1 bt436.2.2.1 bt436.2.2.2).bind fun bt444 => (some (bt444.1, bt444.2.1, bt444.2.2.1, bt444.2.2.2.1, bt444.2.2.2.2)))) = some (r1, r2, r3, r4, r5) := h
 clear h
 replace H := Option.bind_eq_some_iff.mp H
 obtain ⟨⟨t436, t437, t438, t441⟩, A20, H⟩ := H
 replace H : ((impl_machine_relationOf.f k t436 t437 t438 t441).bind fun bt444 => (some (bt444.1, bt444.2.1, bt444.2.2.1, bt444.2.2.2.1, bt444.2.2.2.2))) = some (r1, r2, r3, r4, r5) := H
 have A2 := Aside0.mk A20
 clear A20
 replace H := Option.bind_eq_some_iff.mp H
 obtain ⟨⟨t444, t445, t446, t449, t452⟩, A30, H⟩ := H
 replace H : (some (t444, t445, t446, t449, t452)) = some (r1, r2, r3, r4, r5) := H
 have A3 := Aside0.mk A30
 clear A30
 simp only [Option.some.injEq, Prod.mk.injEq] at H
 obtain ⟨rfl, rfl, rfl, rfl, rfl⟩ := H
 go_enter Tryd.func88, Tryd.ntmps88
 go_wp2_with (first | ((with_reducible refine gate_dst (N := 1) rfl ?_); refine box_event ?hg (N := 1) ?hd (cs := #[.int .i64 a0_0, .int .i64 a0_1, .slice A0_2 l0_2.length c0_2, .slice A0_3 l0_3.length c0_3]) (t := 74) ?hr ?_; (case hd => rfl); (case hg => rfl); (case hr => first | (go_simp; done) | (go_simp; rfl)); intro gb434 hg w4 hbox hb; have n0_ := Aside0.mk (below_step (by repeat (first | (with_reducible first | exact HB.out | apply below_alloc | apply pw_below_drewN | apply below_drew1) | exact HB.out)) hb); have n1_ := Aside0.mk (hbox); have n2_ := Aside0.mk ((by rw [hg]; exact (below_size (by repeat (first | (with_reducible first | exact HB.out | apply below_alloc | apply pw_below_drewN | apply below_drew1) | exact HB.out))) : w.heap.size ≤ gb434)); have n3_ := Aside0.mk ((by rw [hg]; exact (below_size (by repeat (first | (with_reducible first | exact HB.out | apply below_alloc | apply pw_below_drewN | apply below_drew1) | exact HB.out))) : w.heap.size ≤ gb434)); clear HB; have HB := n0_; have BK434 := n1_; have GW434 := n2_; have GE434 := n3_; clear n0_ n1_ n2_ n3_; clear hb hbox hg) | ((with_reducible refine gate_dst (N := 2) rfl ?_); refine box_event ?hg (N := 2) ?hd (cs := #[.int .i64 0, .int .i64 0, .slice none 0 0, .slice none 0 0]) (t := 28) ?hr ?_; (case hd => rfl); (case hg => rfl); (case hr => first | (go_simp; done) | (go_simp; rfl)); intro gb435 hg w5 hbox hb; have n0_ := Aside0.mk (blk_below (g := gb434) (o := .cells #[.int .i64 a0_0, .int .i64 a0_1, .slice A0_2 l0_2.length c0_2, .slice A0_3 l0_3.length c0_3] 74 (0, 0)) (by (with_reducible repeat (first | refine blk_drewN ?_ _ | refine blk_drew ?_ | refine blk_alloc ?_ _)); exact BK434.out) hb); have n1_ := Aside0.mk (below_step (by repeat (first | (with_reducible first | exact HB.out | apply below_alloc | apply pw_below_drewN | apply below_drew1 | refine below_set ?_ GE434.out) | exact HB.out)) hb); have n2_ := Aside0.mk (hbox); have n3_ := Aside0.mk ((by rw [hg]; exact (below_size (by repeat (first | (with_reducible first | exact HB.out | apply below_alloc | apply pw_below_drewN | apply below_drew1 | refine below_set ?_ GE434.out) | exact HB.out))) : w.heap.size ≤ gb435)); have n4_ := Aside0.mk ((by rw [hg]; exact (below_size (by repeat (first | (with_reducible first | exact HB.out | apply below_alloc | apply pw_below_drewN | apply below_drew1 | refine below_set ?_ GE434.out) | exact HB.out))) : w.heap.size ≤ gb435)); have n5_ := Aside0.mk ((by rw [hg]; exact Nat.ne_of_lt (blk_lt (g := gb434) (o := .cells #[.int .i64 a0_0, .int .i64 a0_1, .slice A0_2 l0_2.length c0_2, .slice A0_3 l0_3.length c0_3] 74 (0, 0)) (by (with_reducible repeat (first | refine blk_drewN ?_ _ | refine blk_drew ?_ | refine blk_alloc ?_ _)); exact BK434.out)) : gb434 ≠ gb435)); have n6_ := Aside0.mk ((by rw [hg]; exact Nat.ne_of_gt (blk_lt (g := gb434) (o := .cells #[.int .i64 a0_0, .int .i64 a0_1, .slice A0_2 l0_2.length c0_2, .slice A0_3 l0_3.length c0_3] 74 (0, 0)) (by (with_reducible repeat (first | refine blk_drewN ?_ _ | refine blk_drew ?_ | refine blk_alloc ?_ _)); exact BK434.out)) : gb435 ≠ gb434)); clear BK434; clear HB; have BK434 := n0_; have HB := n1_; have BK435 := n2_; have GW435 := n3_; have GE435 := n4_; have NB434_435 := n5_; have NB435_434 := n6_; clear n0_ n1_ n2_ n3_ n4_ n5_ n6_; clear hb hbox hg; have hnb6 := NB434_435.out; have hnc6 := NB435_434.out; have hcz7_0 : w5.cell? ⟨gb434, 0, none⟩ = some (.int .i64 a0_0) := (blk_cell BK434.out 0).trans rfl; have hcz7_1 : w5.cell? ⟨gb434, 1, none⟩ = some (.int .i64 a0_1) := (blk_cell BK434.out 1).trans rfl; have hcz7_2 : w5.cell? ⟨gb434, 2, none⟩ = some (.slice A0_2 l0_2.length c0_2) := (blk_cell BK434.out 2).trans rfl; have hcz7_3 : w5.cell? ⟨gb434, 3, none⟩ = some (.slice A0_3 l0_3.length c0_3) := (blk_cell BK434.out 3).trans rfl; have hfz7_0 := blk_frozen BK434.out 0; have hfz7_1 := blk_frozen BK434.out 1; have hfz7_2 := blk_frozen BK434.out 2; have hfz7_3 := blk_frozen BK434.out 3) | ((with_reducible refine gate_callee (f := 125) rfl ?_); refine goesL_ (some 5) rfl rfl Tryd.func125 (by kernel_rfl) rfl #[.agg #[.int .i64 a0_0, .int .i64 a0_1, .slice A0_2 l0_2.length c0_2, .slice A0_3 l0_3.length c0_3]] rfl (by (try simp only [List.map_toArray, List.map_cons, List.map_nil]); first | done | rfl | (simp only [List.length_drop, List.length_take]; rfl)) ?_; (with_reducible refine (impl_machine_tidy.calls k a0_0 a0_1 _ _ l0_2 _ _ l0_3 t436 t437 t438 t441 _ (tab_below HTab.out (by repeat (first | (with_reducible first | exact HB.out | apply below_alloc | apply pw_below_drewN | apply below_drew1 | refine below_set ?_ GE434.out | refine below_set ?_ GE435.out) | exact HB.out | exact Below.refl _ _))) ?side1 ?side2 ?side3 ?side4 A2.out).mono ?_); (case side1 => repeat (first | exact (Kd.C_below HR0_2.out HB.out) | (with_reducible refine Kd.C_alloc ?_ _) | (with_reducible refine Kd.C_drewN ?_ _) | (with_reducible refine Kd.C_drew ?_))); (case side2 => exact HC0_2.out); (case side3 => repeat (first | exact (Kd.C_below HR0_3.out HB.out) | (with_reducible refine Kd.C_alloc ?_ _) | (with_reducible refine Kd.C_drewN ?_ _) | (with_reducible refine Kd.C_drew ?_))); (case side4 => exact HC0_3.out); rintro e w8 ⟨v439, v442, rfl, ho0, ho1, hb⟩; refine ⟨_, rfl, ?_⟩; have n0_ := Aside0.mk (Kd.R_lower ho0 (below_size (by repeat (first | (with_reducible first | exact HB.out | apply below_alloc | apply pw_below_drewN | apply below_drew1 | refine below_set ?_ GE434.out | refine below_set ?_ GE435.out) | exact HB.out)))); have n1_ := Aside0.mk (Kd.S_lower ho1 (below_size (by repeat (first | (with_reducible first | exact HB.out | apply below_alloc | apply pw_below_drewN | apply below_drew1 | refine below_set ?_ GE434.out | refine below_set ?_ GE435.out) | exact HB.out)))); have n2_ := Aside0.mk (blk_below (g := gb434) (o := .cells #[.int .i64 a0_0, .int .i64 a0_1, .slice A0_2 l0_2.length c0_2, .slice A0_3 l0_3.length c0_3] 74 (0, 0)) (by (with_reducible repeat (first | refine blk_drewN ?_ _ | refine blk_drew ?_ | refine blk_alloc ?_ _)); exact BK434.out) hb); have n3_ := Aside0.mk (blk_below (g := gb435) (o := .cells #[.int .i64 0, .int .i64 0, .slice none 0 0, .slice none 0 0] 28 (0, 0)) (by (with_reducible repeat (first | refine blk_drewN ?_ _ | refine blk_drew ?_ | refine blk_alloc ?_ _)); exact BK435.out) hb); have n4_ := Aside0.mk (below_step (by repeat (first | (with_reducible first | exact HB.out | apply below_alloc | apply pw_below_drewN | apply below_drew1 | refine below_set ?_ GE434.out | refine below_set ?_ GE435.out) | exact HB.out)) hb); clear BK434; clear BK435; clear HB; have HO440 := n0_; have HO443 := n1_; have BK434 := n2_; have BK435 := n3_; have HB := n4_; clear n0_ n1_ n2_ n3_ n4_; (try clear hb); (try clear hb2); (try clear hk); (try clear hi); (try clear ho0); (try clear ho1); obtain ⟨Ao9, co9, eo9⟩ := Kd.R_slice HO440.out; subst eo9; obtain ⟨Ao10, co10, eo10⟩ := Kd.S_slice HO443.out; subst eo10) | ((with_reducible refine gate_callee (f := 126) rfl ?_); refine goesL_ (some 6) rfl rfl Tryd.func126 (by kernel_rfl) rfl #[.agg #[.int .i64 t436, .int .i64 t437, .slice Ao9 t438.length co9, .slice Ao10 t441.length co10]] rfl (by (try simp only [List.map_toArray, List.map_cons, List.map_nil]); first | done | rfl | (simp only [List.length_drop, List.length_take]; rfl)) ?_; (with_reducible refine (impl_machine_relationOf.calls k t436 t437 _ _ t438 _ _ t441 t444 t445 t446 t449 t452 _ ?side1 ?side2 ?side3 ?side4 A3.out).mono ?_); (case side1 => repeat (first | exact (Kd.R_reads' HO440.out).2.2 | (with_reducible refine Kd.C_alloc ?_ _) | (with_reducible refine Kd.C_drewN ?_ _) | (with_reducible refine Kd.C_drew ?_))); (case side2 => exact (Kd.R_reads' HO440.out).2.1); (case side3 => repeat (first | exact (Kd.S_reads' HO443.out).2.2 | (with_reducible refine Kd.C_alloc ?_ _) | (with_reducible refine Kd.C_drewN ?_ _) | (with_reducible refine Kd.C_drew ?_))); (case side4 => exact (Kd.S_reads' HO443.out).2.1); rintro e w11 ⟨v447, v450, rfl, ho0, ho1, hb⟩; refine ⟨_, rfl, ?_⟩; have n0_ := Aside0.mk (Kd.R_elder' (by (with_reducible repeat (first | apply Kd.R_alloc | apply Kd.R_drewN | apply Kd.R_drew)); exact HO440.out) (Kd.R_base ho0) hb); have n1_ := Aside0.mk (Kd.S_below (by (with_reducible repeat (first | apply Kd.S_alloc | apply Kd.S_drewN | apply Kd.S_drew)); exact HO443.out) hb); have n2_ := Aside0.mk (Kd.R_lower (Kd.R_new' ho0 (Kd.R_lt (by (with_reducible repeat (first | apply Kd.R_alloc | apply Kd.R_drewN | apply Kd.R_drew)); exact HO440.out))) (below_size (by repeat (first | (with_reducible first | exact HB.out | apply below_alloc | apply pw_below_drewN | apply below_drew1 | refine below_set ?_ GE434.out | refine below_set ?_ GE435.out) | exact HB.out)))); have n3_ := Aside0.mk (Kd.S_lower ho1 (below_size (by repeat (first | (with_reducible first | exact HB.out | apply below_alloc | apply pw_below_drewN | apply below_drew1 | refine below_set ?_ GE434.out | refine below_set ?_ GE435.out) | exact HB.out)))); have n4_ := Aside0.mk (blk_below (g := gb434) (o := .cells #[.int .i64 a0_0, .int .i64 a0_1, .slice A0_2 l0_2.length c0_2, .slice A0_3 l0_3.length c0_3] 74 (0, 0)) (by (with_reducible repeat (first | refine blk_drewN ?_ _ | refine blk_drew ?_ | refine blk_alloc ?_ _)); exact BK434.out) hb); have n5_ := Aside0.mk (blk_below (g := gb435) (o := .cells #[.int .i64 0, .int .i64 0, .slice none 0 0, .slice none 0 0] 28 (0, 0)) (by (with_reducible repeat (first | refine blk_drewN ?_ _ | refine blk_drew ?_ | refine blk_alloc ?_ _)); exact BK435.out) hb); have n6_ := Aside0.mk (below_step (by repeat (first | (with_reducible first | exact HB.out | apply below_alloc | apply pw_below_drewN | apply below_drew1 | refine below_set ?_ GE434.out | refine below_set ?_ GE435.out) | exact HB.out)) hb); clear HO440; clear HO443; clear BK434; clear BK435; clear HB; have HO440 := n0_; have HO443 := n1_; have HO448 := n2_; have HO451 := n3_; have BK434 := n4_; have BK435 := n5_; have HB := n6_; clear n0_ n1_ n2_ n3_ n4_ n5_ n6_; (try clear hb); (try clear hb2); (try clear hk); (try clear hi); (try clear ho0); (try clear ho1); have hcz12_0 : w11.cell? ⟨gb435, 0, none⟩ = some (.int .i64 0) := (blk_cell BK435.out 0).trans rfl; have hcz12_1 : w11.cell? ⟨gb435, 1, none⟩ = some (.int .i64 0) := (blk_cell BK435.out 1).trans rfl; have hcz12_2 : w11.cell? ⟨gb435, 2, none⟩ = some (.slice none 0 0) := (blk_cell BK435.out 2).trans rfl; have hcz12_3 : w11.cell? ⟨gb435, 3, none⟩ = some (.slice none 0 0) := (blk_cell BK435.out 3).trans rfl; have hfz12_0 := blk_frozen BK435.out 0; have hfz12_1 := blk_frozen BK435.out 1; have hfz12_2 := blk_frozen BK435.out 2; have hfz12_3 := blk_frozen BK435.out 3; obtain ⟨Ao13, co13, eo13⟩ := Kd.R_slice HO448.out; subst eo13; obtain ⟨Ao14, co14, eo14⟩ := Kd.S_slice HO451.out; subst eo14))
 refine bodyPost_ret (results_ct rfl _ _ gb435 28 #[.int .i64 t444, .int .i64 t445, .slice Ao13 t446.length co13, .slice Ao14 t449.length co14] (0, 0) _ rfl (by (with_reducible repeat (first | refine blk_drewN ?_ _ | refine blk_drew ?_ | refine blk_alloc ?_ _)); refine blk_put (cs := #[.int .i64 t444, .int .i64 t445, .slice Ao13 t446.length co13, .slice none 0 0]) ?_ 3 _ rfl; (with_reducible repeat (first | refine blk_drewN ?_ _ | refine blk_drew ?_ | refine blk_alloc ?_ _)); refine blk_put (cs := #[.int .i64 t444, .int .i64 t445, .slice none 0 0, .slice none 0 0]) ?_ 2 _ rfl; (with_reducible repeat (first | refine blk_drewN ?_ _ | refine blk_drew ?_ | refine blk_alloc ?_ _)); refine blk_put (cs := #[.int .i64 t444, .int .i64 0, .slice none 0 0, .slice none 0 0]) ?_ 1 _ rfl; (with_reducible repeat (first | refine blk_drewN ?_ _ | refine blk_drew ?_ | refine blk_alloc ?_ _)); refine blk_put (cs := #[.int .i64 0, .int .i64 0, .slice none 0 0, .slice none 0 0]) ?_ 0 _ rfl; (with_reducible repeat (first | refine blk_drewN ?_ _ | refine blk_drew ?_ | refine blk_alloc ?_ _)); exact BK435.out) Tryd.underlying28 rfl (by kernel_rfl)) rfl ?_
 exact ⟨_, _, by first | rfl | (simp [errW_none, errW_some] <;> rfl) | (simp [*, errW_none, errW_some] <;> rfl), by (with_reducible repeat (first | apply Kd.R_alloc | apply Kd.R_drewN | apply Kd.R_drew)); exact Kd.R_mono (Kd.R_far (p := ⟨gb435, 3, none⟩) (Kd.R_far (p := ⟨gb435, 2, none⟩) (Kd.R_far (p := ⟨gb435, 1, none⟩) (Kd.R_far (p := ⟨gb435, 0, none⟩) (Kd.R_types HO448.out BK435.out (by decide)) (fun _ hk => hk.2) (.int .i64 t444)) (fun _ hk => hk.2) (.int .i64 t445)) (fun _ hk => hk.2) (.slice Ao13 t446.length co13)) (fun _ hk => hk.2) (.slice Ao14 t449.length co14)) (fun _ hk => trivial), by (with_reducible repeat (first | apply Kd.S_alloc | apply Kd.S_drewN | apply Kd.S_drew)); exact Kd.S_mono (Kd.S_far (p := ⟨gb435, 3, none⟩) (Kd.S_far (p := ⟨gb435, 2, none⟩) (Kd.S_far (p := ⟨gb435, 1, none⟩) (Kd.S_far (p := ⟨gb435, 0, none⟩) (Kd.S_types HO451.out BK435.out (by decide)) (fun _ hk => hk.2) (.int .i64 t444)) (fun _ hk => hk.2) (.int .i64 t445)) (fun _ hk => hk.2) (.slice Ao13 t446.length co13)) (fun _ hk => hk.2) (.slice Ao14 t449.length co14)) (fun _ hk => trivial), by repeat (first | (with_reducible first | exact HB.out | apply below_alloc | apply pw_below_drewN | apply below_drew1 | refine below_set ?_ GE434.out | refine below_set ?_ GE435.out) | exact HB.out)⟩
end Go.Proofs.YtbkcllfgolmloaaDoor.X

namespace Go.Proofs.YtbkcllfgolmloaaDoor.X
open Go Go.RowKit Go.Proofs.YtbkcllfgolmloaaDoorW.PrintWords Go.Proofs.YtbkcllfgolmloaaDoorW.PrintLast Go.Proofs.YtbkcllfgolmloaaDoorW.PrintMore
set_option linter.unusedVariables false
set_option linter.unusedSimpArgs false
section
variable {α β : Type} {P : Program} {w W : World} {f : FuncId} {caps : Array Value} {arg : α → Array Value} {F : α → Option β} {enc : β → Value}
theorem CloOK.later (h : CloOK P w f caps arg F enc) (hb : Below w.heap.size w W) : CloOK P W f caps arg F enc :=
 ⟨h.fn, fun x r W' hW hF => h.run x r W' (below_then hb hb.size hW) hF⟩
end
theorem fill_endR {w W : World} {va vr : Value} {bs : List Bool} {rs : List (List Int)} {base : Nat} (hR : Kd.bool.R 4 W base (fun _ => True) va bs) (hS : Kd.S (Kd.slice 2 (Kd.int .i64)) 55 W base (fun _ => True) vr rs) (hbase : w.heap.size ≤ base) (hb : Below w.heap.size w W) {b : Nat} {cs : Array Value} (h : W.heap[b]? = some (.cells cs 28 (0, 0))) (hbb : w.heap.size ≤ b) (x y : Value) :
  Kd.bool.R 4 (set4 W b x y va vr) w.heap.size (fun _ => True) va bs ∧ Kd.S (Kd.slice 2 (Kd.int .i64)) 55 (set4 W b x y va vr) w.heap.size (fun _ => True) vr rs ∧ Below w.heap.size w (set4 W b x y va vr) :=
 ⟨R_set4 (Kd.R_lower hR hbase) h (by decide) _ _ _ _, S_set4 (Kd.S_lower hS hbase) h (by decide) _ _ _ _, below_set4 hb hbb _ _ _ _⟩
/-- The relation of a machine that 'grow' made (whole numbers as keys). -/
def grownF (k W : Nat) (tapes : Int) (acc : Int → Option Bool) (next : Int → Int → Option Int) : Option (Int × Int × List Bool × List (List Int)) :=
 (growL inI64 acc next W k [0] [] []).bind fun p => (impl_machine_tidied.f k tapes 0 p.1 p.2).bind fun r => some (r.1, r.2.1, r.2.2.1, r.2.2.2.1)
def RelPost (w : World) (r1 r2 : Int) (r3 : List Bool) (r4 : List (List Int)) (e : Ending) (w' : World) : Prop :=
 ∃ v2 v3 : Value, e = .returned (.agg #[.int .i64 r1, .int .i64 r2, v2, v3]) ∧ Kd.R Kd.bool 4 w' w.heap.size (fun _ => True) v2 r3 ∧ Kd.S (Kd.slice 2 (Kd.int .i64)) 55 w' w.heap.size (fun _ => True) v3 r4 ∧ Below w.heap.size w w'
end Go.Proofs.YtbkcllfgolmloaaDoor.X

namespace Go.Proofs.YtbkcllfgolmloaaDoor.X
open Go Go.RowKit Go.Proofs.YtbkcllfgolmloaaDoorW.PrintWords Go.Proofs.YtbkcllfgolmloaaDoorW.PrintLast Go.Proofs.YtbkcllfgolmloaaDoorW.PrintMore
set_option linter.unusedVariables false
set_option linter.unusedSimpArgs false
def accTab (t : List Bool) (q : Int) : Option Bool := if 0 ≤ q ∧ q < (t.length : Int) then some (t.getD q.toNat false) else none
def accAllTuples : Int → Option Bool := accTab [true]
set_option maxHeartbeats 4000000 in
set_option maxRecDepth 100000 in
theorem accAllTuples_clo (w : World) : CloOK Tryd.prog w 118 #[] (fun x : Int => #[.int .i64 x]) accAllTuples Value.bool := by
 refine ⟨⟨_, Tryd.func118, by kernel_rfl, rfl⟩, fun q r W hb h => ?_⟩
 have hc : 0 ≤ q ∧ q < 1 := by
  by_cases c : 0 ≤ q ∧ q < 1
  ·exact c
  ·unfold accAllTuples accTab at h; rw [if_neg (fun h_ => c ⟨h_.1, by have q_ := h_.2; simpa using q_⟩)] at h; cases h
 obtain ⟨q0, q1⟩ := hc
 show Calls Tryd.prog 118 #[.int .i64 q] W fun e W' => e = .returned (.bool r) ∧ Below W.heap.size W W'
 obtain rfl : q = 0 := by omega
 obtain rfl : r = true := Option.some.inj (h.symm.trans (by decide : accAllTuples 0 = some true))
 clear h q0 q1
 go_enter Tryd.func118, Tryd.ntmps118
 go_wp2
 go_ret
 exact ⟨rfl, Below.refl _ _⟩
def nextAll (q _c : Int) : Option Int := if q = 0 then some 0 else none
set_option maxHeartbeats 4000000 in
set_option maxRecDepth 100000 in
theorem nextAll_clo (w : World) : CloOK Tryd.prog w 119 #[] (fun x : Int × Int => #[.int .i64 x.1, .int .i64 x.2]) (fun x => nextAll x.1 x.2) (Value.int .i64) := by
 refine ⟨⟨_, Tryd.func119, by kernel_rfl, rfl⟩, fun x r W hb h => ?_⟩
 obtain ⟨q, c⟩ := x
 have hq : q = 0 := by
  by_cases e : q = 0
  ·exact e
  ·replace h : nextAll q c = some r := h
   unfold nextAll at h; rw [if_neg e] at h; cases h
 subst hq
 obtain rfl : r = 0 := (Option.some.inj h).symm
 show Calls Tryd.prog 119 #[.int .i64 0, .int .i64 c] W fun e W' => e = .returned (.int .i64 0) ∧ Below W.heap.size W W'
 clear h hb
 go_enter Tryd.func119, Tryd.ntmps119
 go_wp2
 go_ret
 exact ⟨rfl, Below.refl _ _⟩
def impl_allTuples.f (k : Nat) (a0 : Int) : Option (Int × Int × List Bool × List (List Int)) := (impl_widthOf.f k a0).bind fun W => if 0 ≤ W ∧ W ≤ 1000 then grownF k W.toNat a0 accAllTuples nextAll else none
set_option maxHeartbeats 4000000 in
set_option maxRecDepth 100000 in
theorem impl_allTuples.calls (k : Nat) (a0 : Int) (r1 : Int) (r2 : Int) (r3 : List Bool) (r4 : List (List Int)) (w : World) (htab : TabOK w) (h : impl_allTuples.f k a0 = some (r1, r2, r3, r4)) :
  Calls Tryd.prog 69 #[.int .i64 a0] w (RelPost w r1 r2 r3 r4) := by
 unfold impl_allTuples.f at h
 obtain ⟨W, hw, h⟩ := Option.bind_eq_some_iff.mp h
 by_cases hc : 0 ≤ W ∧ W ≤ 1000
 case neg => rw [if_neg hc] at h; cases h
 rw [if_pos hc] at h
 unfold grownF at h
 obtain ⟨⟨bs, rs⟩, h1, h⟩ := Option.bind_eq_some_iff.mp h
 obtain ⟨⟨q1, q2, q3, q4, q5⟩, h2, h⟩ := Option.bind_eq_some_iff.mp h
 simp only [Option.some.injEq, Prod.mk.injEq] at h
 obtain ⟨rfl, rfl, rfl, rfl⟩ := h
 have HT := Aside0.mk htab
 have H1 := Aside0.mk h1
 have H2 := Aside0.mk h2
 have HW := Aside0.mk (show impl_widthOf.f k a0 = some ((W.toNat : Nat) : Int) by rw [hw]; congr 1; omega)
 have HC := Aside0.mk (show W.toNat ≤ 1000 by omega)
 clear htab h1 h2 hw hc
 have HB0 := Aside0.mk (below_alloc (Below.refl w.heap.size w) (.cells #[.int .i64 0, .int .i64 0, .slice none 0 0, .slice none 0 0] 28))
 have HBR := Aside0.mk (blk_new w (.cells #[.int .i64 0, .int .i64 0, .slice none 0 0, .slice none 0 0] 28))
 go_enter Tryd.func69, Tryd.ntmps69
 go_wp2_with (fail)
 generalize w.alloc _ = w3 at *
 with_reducible refine (grow_int_calls (kw := k) w3 (accAllTuples_clo _) (nextAll_clo _) HW.out HC.out (by decide) H1.out).mono ?_
 rintro e w4 ⟨va, vr, rfl, hR, hS, hb4⟩
 obtain ⟨A2, c2, hv2⟩ := Kd.R_slice hR
 subst hv2
 obtain ⟨A3, c3, hv3⟩ := Kd.S_slice hS
 subst hv3
 have HB4 := Aside0.mk (below_then HB0.out HB0.out.size hb4)
 have HBR4 := Aside0.mk (blk_below HBR.out hb4)
 have HR4 := Aside0.mk hR
 have HS4 := Aside0.mk hS
 clear HB0 HBR hR hS hb4
 go_upto_region 2 with (fail)
 have HB5 := Aside0.mk (below_alloc HB4.out (.cells #[.int .i64 a0, .int .i64 0, .slice A2 bs.length c2, .slice A3 rs.length c3] 74))
 have BM5 := Aside0.mk (blk_new w4 (.cells #[.int .i64 a0, .int .i64 0, .slice A2 bs.length c2, .slice A3 rs.length c3] 74))
 have HBR5 := Aside0.mk (blk_alloc HBR4.out (.cells #[.int .i64 a0, .int .i64 0, .slice A2 bs.length c2, .slice A3 rs.length c3] 74))
 have HR5 := Aside0.mk (Kd.R_alloc HR4.out (.cells #[.int .i64 a0, .int .i64 0, .slice A2 bs.length c2, .slice A3 rs.length c3] 74))
 have HS5 := Aside0.mk (Kd.S_alloc HS4.out (.cells #[.int .i64 a0, .int .i64 0, .slice A2 bs.length c2, .slice A3 rs.length c3] 74))
 clear HB4 HBR4 HR4 HS4
 generalize w4.alloc _ = w5 at *
 have hx0 : w5.cell? ⟨w4.heap.size, 0, none⟩ = some (.int .i64 a0) := (blk_cell BM5.out 0).trans rfl
 have hx1 : w5.cell? ⟨w4.heap.size, 1, none⟩ = some (.int .i64 0) := (blk_cell BM5.out 1).trans rfl
 have hx2 : w5.cell? ⟨w4.heap.size, 2, none⟩ = some (.slice A2 bs.length c2) := (blk_cell BM5.out 2).trans rfl
 have hx3 : w5.cell? ⟨w4.heap.size, 3, none⟩ = some (.slice A3 rs.length c3) := (blk_cell BM5.out 3).trans rfl
 go_wp2_with (fail)
 clear hx0 hx1 hx2 hx3
 with_reducible refine (impl_machine_tidied.calls k a0 0 _ _ bs _ _ rs q1 q2 q3 q4 q5 _ (tab_below HT.out HB5.out) (Kd.R_reads' HR5.out).2.2 (Kd.R_reads' HR5.out).2.1 (Kd.S_reads' HS5.out).2.2 (Kd.S_reads' HS5.out).2.1 H2.out).mono ?_
 rintro e w6 ⟨v2, v3, rfl, hR, hS, hb6⟩
 obtain ⟨B2, d2, hv2⟩ := Kd.R_slice hR
 subst hv2
 obtain ⟨B3, d3, hv3⟩ := Kd.S_slice hS
 subst hv3
 have HB6 := Aside0.mk (below_then HB5.out HB5.out.size hb6)
 have HBR6 := Aside0.mk (blk_below HBR5.out hb6)
 have HR6 := Aside0.mk (Kd.R_lower hR HB5.out.size)
 have HS6 := Aside0.mk (Kd.S_lower hS HB5.out.size)
 clear HB5 BM5 HBR5 HR5 HS5 hR hS hb6
 go_upto_region 3 with (fail)
 have HB7 := Aside0.mk (below_alloc HB6.out (.cells #[.int .i64 q1, .int .i64 q2, .slice B2 q3.length d2, .slice B3 q4.length d3] 28))
 have BM7 := Aside0.mk (blk_new w6 (.cells #[.int .i64 q1, .int .i64 q2, .slice B2 q3.length d2, .slice B3 q4.length d3] 28))
 have HBR7 := Aside0.mk (blk_alloc HBR6.out (.cells #[.int .i64 q1, .int .i64 q2, .slice B2 q3.length d2, .slice B3 q4.length d3] 28))
 have HR7 := Aside0.mk (Kd.R_alloc HR6.out (.cells #[.int .i64 q1, .int .i64 q2, .slice B2 q3.length d2, .slice B3 q4.length d3] 28))
 have HS7 := Aside0.mk (Kd.S_alloc HS6.out (.cells #[.int .i64 q1, .int .i64 q2, .slice B2 q3.length d2, .slice B3 q4.length d3] 28))
 clear HB6 HBR6 HR6 HS6
 generalize w6.alloc _ = w7 at *
 have hx0 : w7.cell? ⟨w6.heap.size, 0, none⟩ = some (.int .i64 q1) := (blk_cell BM7.out 0).trans rfl
 have hx1 : w7.cell? ⟨w6.heap.size, 1, none⟩ = some (.int .i64 q2) := (blk_cell BM7.out 1).trans rfl
 have hx2 : w7.cell? ⟨w6.heap.size, 2, none⟩ = some (.slice B2 q3.length d2) := (blk_cell BM7.out 2).trans rfl
 have hx3 : w7.cell? ⟨w6.heap.size, 3, none⟩ = some (.slice B3 q4.length d3) := (blk_cell BM7.out 3).trans rfl
 have n0 : w7.cell? ⟨w.heap.size, 0, none⟩ = some (.int .i64 0) := (blk_cell HBR7.out 0).trans rfl
 have n1 : w7.cell? ⟨w.heap.size, 1, none⟩ = some (.int .i64 0) := (blk_cell HBR7.out 1).trans rfl
 have n2 : w7.cell? ⟨w.heap.size, 2, none⟩ = some (.slice none 0 0) := (blk_cell HBR7.out 2).trans rfl
 have n3 : w7.cell? ⟨w.heap.size, 3, none⟩ = some (.slice none 0 0) := (blk_cell HBR7.out 3).trans rfl
 have f0 := blk_frozen HBR7.out 0
 have f1 := blk_frozen HBR7.out 1
 have f2 := blk_frozen HBR7.out 2
 have f3 := blk_frozen HBR7.out 3
 have HE := Aside0.mk (fill_endR (w := w) HR7.out HS7.out (Nat.le_refl _) HB7.out HBR7.out (by omega) (.int .i64 q1) (.int .i64 q2))
 clear HB7 BM7 HBR7 HR7 HS7
 go_wp2
 refine bodyPost_ret (v := .agg #[.int .i64 q1, .int .i64 q2, .slice B2 q3.length d2, .slice B3 q4.length d3]) (by simp [results, Tryd.results69, go_sem, n0, n1, n2, n3]) rfl ⟨_, _, rfl, HE.out⟩
def impl_AllTuples.f (k : Nat) (a0 : Int) : Option (Int × Int × List Bool × List (List Int) × Int) := if 1 ≤ a0 ∧ a0 ≤ 3 then (impl_allTuples.f k a0).bind fun r => some (r.1, r.2.1, r.2.2.1, r.2.2.2, 0) else some (0, 0, [], [], 2)
set_option maxHeartbeats 4000000 in
set_option maxRecDepth 100000 in
theorem impl_AllTuples.calls (k : Nat) (a0 : Int) (r1 : Int) (r2 : Int) (r3 : List Bool) (r4 : List (List Int)) (r5 : Int) (w : World) (htab : TabOK w) (h : impl_AllTuples.f k a0 = some (r1, r2, r3, r4, r5)) :
  Calls Tryd.prog 27 #[.int .i64 a0] w fun e w' => ∃ v2_ v3_ : Value, e = .returned (.tuple #[.agg #[.int .i64 r1, .int .i64 r2, v2_, v3_], .int .i64 r5]) ∧ Kd.R Kd.bool 4 w' w.heap.size (fun _ => True) v2_ r3 ∧ Kd.S (Kd.slice 2 (Kd.int .i64)) 55 w' w.heap.size (fun _ => True) v3_ r4 ∧ Below w.heap.size w w' := by
 have HT := Aside0.mk htab
 unfold impl_AllTuples.f at h
 have HB0 := Aside0.mk (below_alloc (Below.refl w.heap.size w) (.cells #[.int .i64 0, .int .i64 0, .slice none 0 0, .slice none 0 0] 28))
 have HBR := Aside0.mk (blk_new w (.cells #[.int .i64 0, .int .i64 0, .slice none 0 0, .slice none 0 0] 28))
 by_cases c : 1 ≤ a0 ∧ a0 ≤ 3
 ·rw [if_pos c] at h
  have hwi := Aside0.mk (show impl_areTapes.f a0 = some true by unfold impl_areTapes.f impl_within.f; rw [if_pos c.1, decide_eq_true c.2]; rfl)
  obtain ⟨⟨q1, q2, q3, q4⟩, h1, h⟩ := Option.bind_eq_some_iff.mp h
  simp only [Option.some.injEq, Prod.mk.injEq] at h
  obtain ⟨rfl, rfl, rfl, rfl, rfl⟩ := h
  have H := Aside0.mk h1
  clear htab h1 c
  go_enter Tryd.func27, Tryd.ntmps27
  go_wp2_with (fail)
  generalize w.alloc _ = w0 at *
  with_reducible refine (impl_areTapes.calls a0 true _ hwi.out).mono ?_
  rintro e w1 ⟨rfl, hd⟩
  have hb := hd.below
  have HB1 := Aside0.mk (below_then HB0.out HB0.out.size hb)
  have HBR1 := Aside0.mk (blk_below HBR.out hb)
  clear HB0 HBR hd hb
  go_wp2_with (fail)
  with_reducible refine (impl_allTuples.calls k a0 q1 q2 q3 q4 w1 (tab_below HT.out HB1.out) H.out).mono ?_
  rintro e w2 ⟨v2, v3, rfl, hR, hS, hb⟩
  obtain ⟨B2, d2, hv2⟩ := Kd.R_slice hR
  subst hv2
  obtain ⟨B3, d3, hv3⟩ := Kd.S_slice hS
  subst hv3
  have HB2 := Aside0.mk (below_then HB1.out HB1.out.size hb)
  have HBR2 := Aside0.mk (blk_below HBR1.out hb)
  have HE := Aside0.mk (fill_endR (w := w) hR hS HB1.out.size HB2.out HBR2.out (by omega) (.int .i64 q1) (.int .i64 q2))
  have n0 : w2.cell? ⟨w.heap.size, 0, none⟩ = some (.int .i64 0) := (blk_cell HBR2.out 0).trans rfl
  have n1 : w2.cell? ⟨w.heap.size, 1, none⟩ = some (.int .i64 0) := (blk_cell HBR2.out 1).trans rfl
  have n2 : w2.cell? ⟨w.heap.size, 2, none⟩ = some (.slice none 0 0) := (blk_cell HBR2.out 2).trans rfl
  have n3 : w2.cell? ⟨w.heap.size, 3, none⟩ = some (.slice none 0 0) := (blk_cell HBR2.out 3).trans rfl
  have f0 := blk_frozen HBR2.out 0
  have f1 := blk_frozen HBR2.out 1
  have f2 := blk_frozen HBR2.out 2
  have f3 := blk_frozen HBR2.out 3
  clear HB1 HBR1 HB2 HBR2 hR hS hb
  go_wp2
  refine bodyPost_ret (v := .tuple #[.agg #[.int .i64 q1, .int .i64 q2, .slice B2 q3.length d2, .slice B3 q4.length d3], .int .i64 0]) (by simp [results, Tryd.results27, go_sem, n0, n1, n2, n3]) rfl ⟨_, _, rfl, HE.out⟩
 ·rw [if_neg c] at h
  have hwi := Aside0.mk (show impl_areTapes.f a0 = some false by unfold impl_areTapes.f impl_within.f; by_cases c1 : 1 ≤ a0; rw [if_pos c1, decide_eq_false (fun c2 => c ⟨c1, c2⟩)]; rfl; rw [if_neg c1]; rfl)
  simp only [Option.some.injEq, Prod.mk.injEq] at h
  obtain ⟨rfl, rfl, rfl, rfl, rfl⟩ := h
  clear htab c
  go_enter Tryd.func27, Tryd.ntmps27
  go_wp2_with (fail)
  generalize w.alloc _ = w0 at *
  with_reducible refine (impl_areTapes.calls a0 false _ hwi.out).mono ?_
  rintro e w1 ⟨rfl, hd⟩
  have hb := hd.below
  have HB1 := Aside0.mk (below_then HB0.out HB0.out.size hb)
  have HBR1 := Aside0.mk (blk_below HBR.out hb)
  have HE := Aside0.mk (fill_endR (w := w) (Kd.R_nil Kd.bool 4 w1 w1.heap.size (fun _ => True)) (Kd.S_nil (Kd.slice 2 (Kd.int .i64)) 55 w1 w1.heap.size (fun _ => True)) HB1.out.size HB1.out HBR1.out (by omega) (.int .i64 0) (.int .i64 0))
  have n0 : w1.cell? ⟨w.heap.size, 0, none⟩ = some (.int .i64 0) := (blk_cell HBR1.out 0).trans rfl
  have n1 : w1.cell? ⟨w.heap.size, 1, none⟩ = some (.int .i64 0) := (blk_cell HBR1.out 1).trans rfl
  have n2 : w1.cell? ⟨w.heap.size, 2, none⟩ = some (.slice none 0 0) := (blk_cell HBR1.out 2).trans rfl
  have n3 : w1.cell? ⟨w.heap.size, 3, none⟩ = some (.slice none 0 0) := (blk_cell HBR1.out 3).trans rfl
  have f0 := blk_frozen HBR1.out 0
  have f1 := blk_frozen HBR1.out 1
  have f2 := blk_frozen HBR1.out 2
  have f3 := blk_frozen HBR1.out 3
  clear HB0 HBR hd hb HB1 HBR1
  go_wp2
  refine bodyPost_ret (v := .tuple #[.agg #[.int .i64 0, .int .i64 0, .slice none 0 0, .slice none 0 0], .int .i64 2]) (by simp [results, Tryd.results27, go_sem, n0, n1, n2, n3]) rfl ⟨_, _, rfl, HE.out⟩
end Go.Proofs.YtbkcllfgolmloaaDoor.X

namespace Go.Proofs.YtbkcllfgolmloaaDoor.X
open Go Go.RowKit Go.Proofs.YtbkcllfgolmloaaDoorW.PrintWords Go.Proofs.YtbkcllfgolmloaaDoorW.PrintLast Go.Proofs.YtbkcllfgolmloaaDoorW.PrintMore
set_option linter.unusedVariables false
set_option linter.unusedSimpArgs false
open Classical in
noncomputable def laws_FnExactAllTuples.f (k : Nat) (a0 : Int) : Option Bool := (spec_AllTuples.f k a0).bind fun | (r0_0, r0_1, r0_2, r0_3, r1) => if impl_AllTuples.f k a0 = some (r0_0, r0_1, r0_2, r0_3, r1) then (if laws_eqRelation.f k r0_0 r0_1 r0_2 r0_3 r0_0 r0_1 r0_2 r0_3 = some true then ((laws_markBoolS.f k r0_2 1).bind fun | (m4a, r0_2m) => (laws_markInt64SS.f k r0_3 m4a).bind fun | (m4, r0_3m) => if m4 < 0 then none else (if laws_heldRelation.f k r0_0 r0_1 r0_2m r0_3m 1 = some m4 then (some true) else none)) else none) else none
set_option maxHeartbeats 16000000 in
set_option maxRecDepth 100000 in
theorem laws_FnExactAllTuples.main (k : Nat) (a0 : Int) (w : World) (htab : TabOK w)  (r0_0 : Int) (r0_1 : Int) (r0_2 : List Bool) (r0_3 : List (List Int)) (r1 : Int) (m4a : Int) (r0_2m : List Bool) (m4 : Int) (r0_3m : List (List Int)) (hS : spec_AllTuples.f k a0 = some (r0_0, r0_1, r0_2, r0_3, r1)) (hI : impl_AllTuples.f k a0 = some (r0_0, r0_1, r0_2, r0_3, r1)) (her : laws_eqRelation.f k r0_0 r0_1 r0_2 r0_3 r0_0 r0_1 r0_2 r0_3 = some true) (hm4a : laws_markBoolS.f k r0_2 1 = some (m4a, r0_2m)) (hm4b : laws_markInt64SS.f k r0_3 m4a = some (m4, r0_3m)) (hn4 : ¬ m4 < 0) (hh : laws_heldRelation.f k r0_0 r0_1 r0_2m r0_3m 1 = some m4)  :
  Calls Tryd.prog 6 #[.int .i64 a0] w fun e w' => e = .returned (.bool true) ∧ Below w.heap.size w w' := by
 have HS := Aside0.mk hS
 have HI := Aside0.mk hI
 have HER := Aside0.mk her
 have HM4A := Aside0.mk hm4a
 have HM4B := Aside0.mk hm4b
 have HN4 := Aside0.mk hn4
 have HH := Aside0.mk hh
 have HT := Aside0.mk htab
 clear hS hI her hm4a hm4b hn4 hh htab
 have HB_w := Aside0.mk (Below.refl w.heap.size w)
 go_enter Tryd.func6, Tryd.ntmps6
 go_wp2_with (fail)
 with_reducible refine (spec_AllTuples.calls k a0 r0_0 r0_1 r0_2 r0_3 r1 _  HS.out).mono ?_
 rintro e w1 ⟨vy102, vy103, rfl, hy102, hy103, hb⟩
 obtain ⟨Ay102, cy102, hvy102⟩ := Kd.R_slice hy102
 subst hvy102
 obtain ⟨Ay103, cy103, hvy103⟩ := Kd.N_slice hy103
 subst hvy103
 have HZ_w1 := Aside0.mk (show w.heap.size + 0 ≤ w1.heap.size by have := hb.size; omega)
 have RIy10_w1 := Aside0.mk (RelRd.mk_ (base := w.heap.size) HB_w.out.size hy102 hy103 (fun k_ h_ => h_.1))
 have HB_w1 := Aside0.mk (below_then HB_w.out HB_w.out.size hb)
 clear HB_w
 clear hy102 hy103 hb
 go_upto_region 2 with (fail)
 have BX3_w2 := Aside0.mk (blk_new w1 (.cells #[.int .i64 r0_0, .int .i64 r0_1, .slice Ay102 r0_2.length cy102, .slice Ay103 r0_3.length cy103] 28))
 have hb := below_alloc (Below.refl w1.heap.size w1) (.cells #[.int .i64 r0_0, .int .i64 r0_1, .slice Ay102 r0_2.length cy102, .slice Ay103 r0_3.length cy103] 28)
 have HZ_w2 := Aside0.mk (show w1.heap.size + 1 ≤ (w1.alloc (.cells #[.int .i64 r0_0, .int .i64 r0_1, .slice Ay102 r0_2.length cy102, .slice Ay103 r0_3.length cy103] 28)).heap.size by simp)
 have HB_w2 := Aside0.mk (below_then HB_w1.out HB_w1.out.size hb)
 have RIy10_w2 := Aside0.mk (RIy10_w1.out.below hb)
 clear HB_w1 RIy10_w1
 clear hb
 generalize w1.alloc _ = w2 at *
 go_wp2_with (fail)
 with_reducible refine (impl_AllTuples.calls k a0 r0_0 r0_1 r0_2 r0_3 r1 _ (tab_below HT.out HB_w2.out)  HI.out).mono ?_
 rintro e w3 ⟨vy202, vy203, rfl, hy202, hy203, hb⟩
 obtain ⟨Ay202, cy202, hvy202⟩ := Kd.R_slice hy202
 subst hvy202
 obtain ⟨Ay203, cy203, hvy203⟩ := Kd.S_slice hy203
 subst hvy203
 have HZ_w3 := Aside0.mk (show w2.heap.size + 0 ≤ w3.heap.size by have := hb.size; omega)
 have RIy20_w3 := Aside0.mk (RelOwn.mk_ (base := w.heap.size) HB_w2.out.size hy202 hy203)
 have HB_w3 := Aside0.mk (below_then HB_w2.out HB_w2.out.size hb)
 have RIy10_w3 := Aside0.mk (RIy10_w2.out.below hb)
 have BX3_w3 := Aside0.mk (blk_below BX3_w2.out hb)
 clear HB_w2 RIy10_w2 BX3_w2
 clear hy202 hy203 hb
 go_upto_region 3 with (fail)
 have BX5_w4 := Aside0.mk (blk_new w3 (.cells #[.int .i64 r0_0, .int .i64 r0_1, .slice Ay202 r0_2.length cy202, .slice Ay203 r0_3.length cy203] 28))
 have hb := below_alloc (Below.refl w3.heap.size w3) (.cells #[.int .i64 r0_0, .int .i64 r0_1, .slice Ay202 r0_2.length cy202, .slice Ay203 r0_3.length cy203] 28)
 have HZ_w4 := Aside0.mk (show w3.heap.size + 1 ≤ (w3.alloc (.cells #[.int .i64 r0_0, .int .i64 r0_1, .slice Ay202 r0_2.length cy202, .slice Ay203 r0_3.length cy203] 28)).heap.size by simp)
 have HB_w4 := Aside0.mk (below_then HB_w3.out HB_w3.out.size hb)
 have RIy10_w4 := Aside0.mk (RIy10_w3.out.below hb)
 have BX3_w4 := Aside0.mk (blk_below BX3_w3.out hb)
 have RIy20_w4 := Aside0.mk (RIy20_w3.out.below hb)
 clear HB_w3 RIy10_w3 BX3_w3 RIy20_w3
 clear hb
 generalize w3.alloc _ = w4 at *
 have hx0_0 : w4.cell? ⟨w3.heap.size, 0, none⟩ = some (.int .i64 r0_0) := (blk_cell BX5_w4.out 0).trans rfl
 have hx0_1 : w4.cell? ⟨w3.heap.size, 1, none⟩ = some (.int .i64 r0_1) := (blk_cell BX5_w4.out 1).trans rfl
 have hx0_2 : w4.cell? ⟨w3.heap.size, 2, none⟩ = some (.slice Ay202 r0_2.length cy202) := (blk_cell BX5_w4.out 2).trans rfl
 have hx0_3 : w4.cell? ⟨w3.heap.size, 3, none⟩ = some (.slice Ay203 r0_3.length cy203) := (blk_cell BX5_w4.out 3).trans rfl
 have hx1_0 : w4.cell? ⟨w1.heap.size, 0, none⟩ = some (.int .i64 r0_0) := (blk_cell BX3_w4.out 0).trans rfl
 have hx1_1 : w4.cell? ⟨w1.heap.size, 1, none⟩ = some (.int .i64 r0_1) := (blk_cell BX3_w4.out 1).trans rfl
 have hx1_2 : w4.cell? ⟨w1.heap.size, 2, none⟩ = some (.slice Ay102 r0_2.length cy102) := (blk_cell BX3_w4.out 2).trans rfl
 have hx1_3 : w4.cell? ⟨w1.heap.size, 3, none⟩ = some (.slice Ay103 r0_3.length cy103) := (blk_cell BX3_w4.out 3).trans rfl
 go_wp2_with (fail)
 clear hx0_0 hx0_1 hx0_2 hx0_3 hx1_0 hx1_1 hx1_2 hx1_3
 with_reducible refine (laws_eqRelation.calls k r0_0 r0_1 _ _ r0_2 _ _ r0_3 r0_0 r0_1 _ _ r0_2 _ _ r0_3 true _ RIy20_w4.out.reads.1 RIy20_w4.out.reads.2.1 RIy20_w4.out.reads.2.2.1 RIy20_w4.out.reads.2.2.2 RIy10_w4.out.reads.1 RIy10_w4.out.reads.2.1 RIy10_w4.out.reads.2.2.1 RIy10_w4.out.reads.2.2.2 HER.out).mono ?_
 rintro e w5 ⟨rfl, hb⟩
 have HZ_w5 := Aside0.mk (show w4.heap.size + 0 ≤ w5.heap.size by have := hb.size; omega)
 have HB_w5 := Aside0.mk (below_then HB_w4.out HB_w4.out.size hb)
 have RIy10_w5 := Aside0.mk (RIy10_w4.out.below hb)
 have BX3_w5 := Aside0.mk (blk_below BX3_w4.out hb)
 have RIy20_w5 := Aside0.mk (RIy20_w4.out.below hb)
 have BX5_w5 := Aside0.mk (blk_below BX5_w4.out hb)
 clear HB_w4 RIy10_w4 BX3_w4 RIy20_w4 BX5_w4
 clear hb
 have hx0_0 : w5.cell? ⟨w3.heap.size, 0, none⟩ = some (.int .i64 r0_0) := (blk_cell BX5_w5.out 0).trans rfl
 have hx0_1 : w5.cell? ⟨w3.heap.size, 1, none⟩ = some (.int .i64 r0_1) := (blk_cell BX5_w5.out 1).trans rfl
 have hx0_2 : w5.cell? ⟨w3.heap.size, 2, none⟩ = some (.slice Ay202 r0_2.length cy202) := (blk_cell BX5_w5.out 2).trans rfl
 have hx0_3 : w5.cell? ⟨w3.heap.size, 3, none⟩ = some (.slice Ay203 r0_3.length cy203) := (blk_cell BX5_w5.out 3).trans rfl
 go_wp2_with (fail)
 clear hx0_0 hx0_1 hx0_2 hx0_3
 with_reducible refine (RelOwn.mark k _ _ _ _ r0_2 r0_3 1 m4a m4 r0_2m r0_3m w _ HB_w5.out RIy20_w5.out (by have := HZ_w1.out; have := HZ_w2.out; have := HZ_w3.out; have := HZ_w4.out; have := HZ_w5.out; omega) HM4A.out HM4B.out).mono ?_
 rintro e w6 ⟨rfl, hI_, hB_, hK_⟩
 have HZ_w6 := Aside0.mk (show w5.heap.size + 0 ≤ w6.heap.size by have := hK_.1; omega)
 have RIy10_w6 := Aside0.mk (RIy10_w5.out.kept hK_ (fun k_ h1_ h2_ => by have := (And.intro HZ_w1.out (And.intro HZ_w2.out (And.intro HZ_w3.out (And.intro HZ_w4.out (And.intro HZ_w5.out trivial))))); omega))
 have BX3_w6 := Aside0.mk ((hK_.2 _ (by have q_ := blk_lt BX3_w5.out; exact q_) (by have := (And.intro HZ_w1.out (And.intro HZ_w2.out (And.intro HZ_w3.out (And.intro HZ_w4.out (And.intro HZ_w5.out trivial))))); omega)).trans BX3_w5.out)
 have BX5_w6 := Aside0.mk ((hK_.2 _ (by have q_ := blk_lt BX5_w5.out; exact q_) (by have := (And.intro HZ_w1.out (And.intro HZ_w2.out (And.intro HZ_w3.out (And.intro HZ_w4.out (And.intro HZ_w5.out trivial))))); omega)).trans BX5_w5.out)
 clear RIy10_w5 BX3_w5 BX5_w5
 have HB_w6 := Aside0.mk hB_
 clear HB_w5 hB_
 have RIy20_w6 := Aside0.mk hI_
 clear hI_ hK_ RIy20_w5
 have hd4 : decide (m4 < 0) = false := decide_eq_false (by have q_ := HN4.out; omega)
 have hx0_0 : w6.cell? ⟨w3.heap.size, 0, none⟩ = some (.int .i64 r0_0) := (blk_cell BX5_w6.out 0).trans rfl
 have hx0_1 : w6.cell? ⟨w3.heap.size, 1, none⟩ = some (.int .i64 r0_1) := (blk_cell BX5_w6.out 1).trans rfl
 have hx0_2 : w6.cell? ⟨w3.heap.size, 2, none⟩ = some (.slice Ay202 r0_2.length cy202) := (blk_cell BX5_w6.out 2).trans rfl
 have hx0_3 : w6.cell? ⟨w3.heap.size, 3, none⟩ = some (.slice Ay203 r0_3.length cy203) := (blk_cell BX5_w6.out 3).trans rfl
 go_wp2_with (fail)
 clear hx0_0 hx0_1 hx0_2 hx0_3
 obtain ⟨e2_, e3_, q1_, q2_, q3_, q4_⟩ := RIy20_w6.out.reads'
 have hq_ := laws_heldRelation.calls k r0_0 r0_1 _ _ r0_2m _ _ r0_3m 1 m4 _ q1_ q2_ q3_ q4_ HH.out
 rw [← e2_, ← e3_] at hq_
 clear e2_ e3_ q1_ q2_ q3_ q4_
 with_reducible refine hq_.mono ?_
 clear hq_
 rintro e w7 ⟨rfl, hb⟩
 have HZ_w7 := Aside0.mk (show w6.heap.size + 0 ≤ w7.heap.size by have := hb.size; omega)
 have HB_w7 := Aside0.mk (below_then HB_w6.out HB_w6.out.size hb)
 have RIy10_w7 := Aside0.mk (RIy10_w6.out.below hb)
 have BX3_w7 := Aside0.mk (blk_below BX3_w6.out hb)
 have BX5_w7 := Aside0.mk (blk_below BX5_w6.out hb)
 have RIy20_w7 := Aside0.mk (RIy20_w6.out.below hb)
 clear HB_w6 RIy10_w6 BX3_w6 BX5_w6 RIy20_w6
 clear hb
 go_wp2_with (fail)
 with_reducible refine (impl_AllTuples.calls k a0 r0_0 r0_1 r0_2 r0_3 r1 _ (tab_below HT.out HB_w7.out)  HI.out).mono ?_
 rintro e w8 ⟨vy602, vy603, rfl, hy602, hy603, hb⟩
 obtain ⟨Ay602, cy602, hvy602⟩ := Kd.R_slice hy602
 subst hvy602
 obtain ⟨Ay603, cy603, hvy603⟩ := Kd.S_slice hy603
 subst hvy603
 have HZ_w8 := Aside0.mk (show w7.heap.size + 0 ≤ w8.heap.size by have := hb.size; omega)
 have RIy60_w8 := Aside0.mk (RelOwn.mk_ (base := w.heap.size) HB_w7.out.size hy602 hy603)
 have HB_w8 := Aside0.mk (below_then HB_w7.out HB_w7.out.size hb)
 have RIy10_w8 := Aside0.mk (RIy10_w7.out.below hb)
 have BX3_w8 := Aside0.mk (blk_below BX3_w7.out hb)
 have BX5_w8 := Aside0.mk (blk_below BX5_w7.out hb)
 have RIy20_w8 := Aside0.mk (RIy20_w7.out.below hb)
 clear HB_w7 RIy10_w7 BX3_w7 BX5_w7 RIy20_w7
 clear hy602 hy603 hb
 go_upto_region 14 with (fail)
 have BX9_w9 := Aside0.mk (blk_new w8 (.cells #[.int .i64 r0_0, .int .i64 r0_1, .slice Ay602 r0_2.length cy602, .slice Ay603 r0_3.length cy603] 28))
 have hb := below_alloc (Below.refl w8.heap.size w8) (.cells #[.int .i64 r0_0, .int .i64 r0_1, .slice Ay602 r0_2.length cy602, .slice Ay603 r0_3.length cy603] 28)
 have HZ_w9 := Aside0.mk (show w8.heap.size + 1 ≤ (w8.alloc (.cells #[.int .i64 r0_0, .int .i64 r0_1, .slice Ay602 r0_2.length cy602, .slice Ay603 r0_3.length cy603] 28)).heap.size by simp)
 have HB_w9 := Aside0.mk (below_then HB_w8.out HB_w8.out.size hb)
 have RIy10_w9 := Aside0.mk (RIy10_w8.out.below hb)
 have BX3_w9 := Aside0.mk (blk_below BX3_w8.out hb)
 have BX5_w9 := Aside0.mk (blk_below BX5_w8.out hb)
 have RIy20_w9 := Aside0.mk (RIy20_w8.out.below hb)
 have RIy60_w9 := Aside0.mk (RIy60_w8.out.below hb)
 clear HB_w8 RIy10_w8 BX3_w8 BX5_w8 RIy20_w8 RIy60_w8
 clear hb
 generalize w8.alloc _ = w9 at *
 have hx0_0 : w9.cell? ⟨w8.heap.size, 0, none⟩ = some (.int .i64 r0_0) := (blk_cell BX9_w9.out 0).trans rfl
 have hx0_1 : w9.cell? ⟨w8.heap.size, 1, none⟩ = some (.int .i64 r0_1) := (blk_cell BX9_w9.out 1).trans rfl
 have hx0_2 : w9.cell? ⟨w8.heap.size, 2, none⟩ = some (.slice Ay602 r0_2.length cy602) := (blk_cell BX9_w9.out 2).trans rfl
 have hx0_3 : w9.cell? ⟨w8.heap.size, 3, none⟩ = some (.slice Ay603 r0_3.length cy603) := (blk_cell BX9_w9.out 3).trans rfl
 have hx1_0 : w9.cell? ⟨w1.heap.size, 0, none⟩ = some (.int .i64 r0_0) := (blk_cell BX3_w9.out 0).trans rfl
 have hx1_1 : w9.cell? ⟨w1.heap.size, 1, none⟩ = some (.int .i64 r0_1) := (blk_cell BX3_w9.out 1).trans rfl
 have hx1_2 : w9.cell? ⟨w1.heap.size, 2, none⟩ = some (.slice Ay102 r0_2.length cy102) := (blk_cell BX3_w9.out 2).trans rfl
 have hx1_3 : w9.cell? ⟨w1.heap.size, 3, none⟩ = some (.slice Ay103 r0_3.length cy103) := (blk_cell BX3_w9.out 3).trans rfl
 go_wp2_with (fail)
 clear hx0_0 hx0_1 hx0_2 hx0_3 hx1_0 hx1_1 hx1_2 hx1_3
 with_reducible refine (laws_eqRelation.calls k r0_0 r0_1 _ _ r0_2 _ _ r0_3 r0_0 r0_1 _ _ r0_2 _ _ r0_3 true _ RIy60_w9.out.reads.1 RIy60_w9.out.reads.2.1 RIy60_w9.out.reads.2.2.1 RIy60_w9.out.reads.2.2.2 RIy10_w9.out.reads.1 RIy10_w9.out.reads.2.1 RIy10_w9.out.reads.2.2.1 RIy10_w9.out.reads.2.2.2 HER.out).mono ?_
 rintro e w10 ⟨rfl, hb⟩
 have HZ_w10 := Aside0.mk (show w9.heap.size + 0 ≤ w10.heap.size by have := hb.size; omega)
 have HB_w10 := Aside0.mk (below_then HB_w9.out HB_w9.out.size hb)
 have RIy10_w10 := Aside0.mk (RIy10_w9.out.below hb)
 have BX3_w10 := Aside0.mk (blk_below BX3_w9.out hb)
 have BX5_w10 := Aside0.mk (blk_below BX5_w9.out hb)
 have RIy20_w10 := Aside0.mk (RIy20_w9.out.below hb)
 have RIy60_w10 := Aside0.mk (RIy60_w9.out.below hb)
 have BX9_w10 := Aside0.mk (blk_below BX9_w9.out hb)
 clear HB_w9 RIy10_w9 BX3_w9 BX5_w9 RIy20_w9 RIy60_w9 BX9_w9
 clear hb
 have hx0_0 : w10.cell? ⟨w3.heap.size, 0, none⟩ = some (.int .i64 r0_0) := (blk_cell BX5_w10.out 0).trans rfl
 have hx0_1 : w10.cell? ⟨w3.heap.size, 1, none⟩ = some (.int .i64 r0_1) := (blk_cell BX5_w10.out 1).trans rfl
 have hx0_2 : w10.cell? ⟨w3.heap.size, 2, none⟩ = some (.slice Ay202 r0_2.length cy202) := (blk_cell BX5_w10.out 2).trans rfl
 have hx0_3 : w10.cell? ⟨w3.heap.size, 3, none⟩ = some (.slice Ay203 r0_3.length cy203) := (blk_cell BX5_w10.out 3).trans rfl
 go_wp2_with (fail)
 clear hx0_0 hx0_1 hx0_2 hx0_3
 obtain ⟨e2_, e3_, q1_, q2_, q3_, q4_⟩ := RIy20_w10.out.reads'
 have hq_ := laws_heldRelation.calls k r0_0 r0_1 _ _ r0_2m _ _ r0_3m 1 m4 _ q1_ q2_ q3_ q4_ HH.out
 rw [← e2_, ← e3_] at hq_
 clear e2_ e3_ q1_ q2_ q3_ q4_
 with_reducible refine hq_.mono ?_
 clear hq_
 rintro e w11 ⟨rfl, hb⟩
 have HZ_w11 := Aside0.mk (show w10.heap.size + 0 ≤ w11.heap.size by have := hb.size; omega)
 have HB_w11 := Aside0.mk (below_then HB_w10.out HB_w10.out.size hb)
 have RIy10_w11 := Aside0.mk (RIy10_w10.out.below hb)
 have BX3_w11 := Aside0.mk (blk_below BX3_w10.out hb)
 have BX5_w11 := Aside0.mk (blk_below BX5_w10.out hb)
 have RIy20_w11 := Aside0.mk (RIy20_w10.out.below hb)
 have RIy60_w11 := Aside0.mk (RIy60_w10.out.below hb)
 have BX9_w11 := Aside0.mk (blk_below BX9_w10.out hb)
 clear HB_w10 RIy10_w10 BX3_w10 BX5_w10 RIy20_w10 RIy60_w10 BX9_w10
 clear hb
 go_wp2
 go_ret
 exact ⟨rfl, HB_w11.out⟩
theorem laws_FnExactAllTuples.calls (k : Nat) (a0 : Int) (w : World) (htab : TabOK w)  (h : laws_FnExactAllTuples.f k a0 = some true) :
  Calls Tryd.prog 6 #[.int .i64 a0] w fun e w' => e = .returned (.bool true) ∧ Below w.heap.size w w' := by
 unfold laws_FnExactAllTuples.f at h
 obtain ⟨⟨r0_0, r0_1, r0_2, r0_3, r1⟩, hS, h⟩ := Option.bind_eq_some_iff.mp h
 dsimp only at h
 by_cases hI : impl_AllTuples.f k a0 = some (r0_0, r0_1, r0_2, r0_3, r1)
 case neg => rw [if_neg hI] at h; cases h
 rw [if_pos hI] at h
 by_cases her : laws_eqRelation.f k r0_0 r0_1 r0_2 r0_3 r0_0 r0_1 r0_2 r0_3 = some true
 case neg => rw [if_neg her] at h; cases h
 rw [if_pos her] at h
 obtain ⟨⟨m4a, r0_2m⟩, hm4a, h⟩ := Option.bind_eq_some_iff.mp h
 dsimp only at h
 obtain ⟨⟨m4, r0_3m⟩, hm4b, h⟩ := Option.bind_eq_some_iff.mp h
 dsimp only at h
 by_cases hn4 : m4 < 0
 case pos => rw [if_pos hn4] at h; cases h
 rw [if_neg hn4] at h
 by_cases hh : laws_heldRelation.f k r0_0 r0_1 r0_2m r0_3m 1 = some m4
 case neg => rw [if_neg hh] at h; cases h
 rw [if_pos hh] at h
 exact laws_FnExactAllTuples.main k a0 w htab  r0_0 r0_1 r0_2 r0_3 r1 m4a r0_2m m4 r0_3m hS hI her hm4a hm4b hn4 hh 
end Go.Proofs.YtbkcllfgolmloaaDoor.X

namespace Go.Proofs.YtbkcllfgolmloaaDoor.X
open Go Go.RowKit Go.Proofs.YtbkcllfgolmloaaDoorW.PrintWords Go.Proofs.YtbkcllfgolmloaaDoorW.PrintLast Go.Proofs.YtbkcllfgolmloaaDoorW.PrintMore
set_option linter.unusedVariables false
set_option linter.unusedSimpArgs false
def cellsOfD : DataW Unit → Array Value
 | .agg l => (l.map fun d => match d with | .lit x => x.value | _ => .bool false).toArray
 | _ => #[]
noncomputable def layAt (w : World) (g : Nat) (d : DataW Unit) : World := { w with heap := w.heap.modify g fun
 | .cells _ t frozen => .cells (cellsOfD d) t frozen
 | o => o }
noncomputable def laidWorld (os : Os) : World :=
 layAt (layAt (layAt (World.holding Tryd.prog os ⟨#[], #[], []⟩) 4 Rows.laid_math_bits_deBruijn32tab) 5 Rows.laid_math_bits_deBruijn64tab) 0 Rows.laid_internal_strconv_uint64pow10
def laid3 : List (String × DataW Unit) := [("math/bits.deBruijn32tab", Rows.laid_math_bits_deBruijn32tab), ("math/bits.deBruijn64tab", Rows.laid_math_bits_deBruijn64tab), ("internal/strconv.uint64pow10", Rows.laid_internal_strconv_uint64pow10)]
set_option maxRecDepth 100000 in
theorem laidWorld_met (os : Os) (args : Array Value) : laidMet Tryd.prog laid3 ((laidWorld os).forCall (fun _ _ => 0) ⟨#[], args, []⟩).memory :=
 laidMet_of_run (ps := (List.range 32).map (MemPlace.cell 4) ++ (List.range 64).map (MemPlace.cell 5) ++ (List.range 20).map (MemPlace.cell 0)) 8 (by kernel_rfl) (by kernel_rfl) (by kernel_rfl)
theorem pow_data : (Rows.laid_internal_strconv_uint64pow10 : DataW Unit) = Lib.tabData .u64 Lib.pow10Tab := by kernel_rfl
theorem tab_of_laid {W : World} (h : laidMet Tryd.prog laid3 W) : Lib.TabIs Tryd.prog W "internal/strconv.uint64pow10" .u64 Lib.pow10Tab := by
 obtain ⟨ps, ⟨_, _, _, _, _, _, _, _, _, _, ⟨_, _, _, _, _, _, _, _, _, _, ⟨g', t', cs, fuel, p, q, hg', ht', hvar, hd, _, _⟩, _⟩, _⟩, _⟩ := h
 obtain rfl := Option.some.inj ((show Tryd.prog.globalNamed "internal/strconv.uint64pow10" = some 0 by kernel_rfl).symm.trans hg')
 obtain rfl := Option.some.inj ((show (Tryd.prog.globals[0]?).map (·.type) = some 180 by kernel_rfl).symm.trans ht')
 rw [pow_data] at hd
 unfold Lib.TabIs
 rw [hvar, ← Lib.cells_of_tab Tryd.underlying180 Tryd.underlying172 (by kernel_rfl) (by kernel_rfl) hd]
theorem tabOK_of {W : World} (h : laidMet Tryd.prog laid3 W) : TabOK W := Lib.tabBelow_of_tabIs (tab_of_laid h)
end Go.Proofs.YtbkcllfgolmloaaDoor.X

namespace Go.Proofs.YtbkcllfgolmloaaDoor.Pure
open Go.RowKit Go.Proofs.YtbkcllfgolmloaaDoor.X Go.Proofs.YtbkcllfgolmloaaDoorW.PrintWords Go.Proofs.YtbkcllfgolmloaaDoorW.PrintLast
set_option linter.unusedVariables false
set_option linter.unusedSimpArgs false
def mB : Nat → Nat → List Bool
 | _, 0 => []
 | a, n + 1 => (Int.tmod (a : Int) 3 == 0) :: mB (a + 1) n
def mI : Nat → Nat → List Int
 | _, 0 => []
 | a, n + 1 => (a : Int) :: mI (a + 1) n
def mII : Nat → List (List Int) → List (List Int)
 | _, [] => []
 | a, r :: rs => mI a r.length :: mII (a + r.length) rs
def sumL : List (List Int) → Nat
 | [] => 0
 | r :: rs => r.length + sumL rs
instance decTail : DecidableEq (List Bool × List (List Int) × Int) := inferInstance
instance decRel5 : DecidableEq (Int × Int × List Bool × List (List Int) × Int) := fun a b => @instDecidableEqProd _ _ inferInstance (fun x y => @instDecidableEqProd _ _ inferInstance decTail x y) a b
def relAllTuplesA1 : Int × Int × List Bool × List (List Int) × Int := (impl_AllTuples.f 2000 1).getD (0, 0, [], [], 0)
set_option maxRecDepth 100000 in
theorem lawAllTuplesA1 : laws_FnExactAllTuples.f 2000 1 = some true := by
 have hI : impl_AllTuples.f 2000 1 = some (relAllTuplesA1.1, relAllTuplesA1.2.1, relAllTuplesA1.2.2.1, relAllTuplesA1.2.2.2.1, relAllTuplesA1.2.2.2.2) := by decide +kernel
 have hS : spec_AllTuples.f 2000 1 = some (relAllTuplesA1.1, relAllTuplesA1.2.1, relAllTuplesA1.2.2.1, relAllTuplesA1.2.2.2.1, relAllTuplesA1.2.2.2.2) := by decide +kernel
 have hE : laws_eqRelation.f 2000 relAllTuplesA1.1 relAllTuplesA1.2.1 relAllTuplesA1.2.2.1 relAllTuplesA1.2.2.2.1 relAllTuplesA1.1 relAllTuplesA1.2.1 relAllTuplesA1.2.2.1 relAllTuplesA1.2.2.2.1 = some true := by decide +kernel
 have h1 : laws_markBoolS.f 2000 relAllTuplesA1.2.2.1 1 = some (((1 + relAllTuplesA1.2.2.1.length : Nat) : Int), mB 1 relAllTuplesA1.2.2.1.length) := by decide +kernel
 have h2 : laws_markInt64SS.f 2000 relAllTuplesA1.2.2.2.1 ((1 + relAllTuplesA1.2.2.1.length : Nat) : Int) = some (((1 + relAllTuplesA1.2.2.1.length + sumL relAllTuplesA1.2.2.2.1 : Nat) : Int), mII (1 + relAllTuplesA1.2.2.1.length) relAllTuplesA1.2.2.2.1) := by decide +kernel
 have h3 : laws_heldRelation.f 2000 relAllTuplesA1.1 relAllTuplesA1.2.1 (mB 1 relAllTuplesA1.2.2.1.length) (mII (1 + relAllTuplesA1.2.2.1.length) relAllTuplesA1.2.2.2.1) 1 = some ((1 + relAllTuplesA1.2.2.1.length + sumL relAllTuplesA1.2.2.2.1 : Nat) : Int) := by decide +kernel
 unfold laws_FnExactAllTuples.f
 rw [hS]
 simp only [Option.bind_some]
 rw [if_pos hI, if_pos hE, h1]
 simp only [Option.bind_some]
 rw [h2]
 simp only [Option.bind_some]
 rw [if_neg (by omega), if_pos h3]
def relAllTuplesA2 : Int × Int × List Bool × List (List Int) × Int := (impl_AllTuples.f 2000 2).getD (0, 0, [], [], 0)
set_option maxRecDepth 100000 in
theorem lawAllTuplesA2 : laws_FnExactAllTuples.f 2000 2 = some true := by
 have hI : impl_AllTuples.f 2000 2 = some (relAllTuplesA2.1, relAllTuplesA2.2.1, relAllTuplesA2.2.2.1, relAllTuplesA2.2.2.2.1, relAllTuplesA2.2.2.2.2) := by decide +kernel
 have hS : spec_AllTuples.f 2000 2 = some (relAllTuplesA2.1, relAllTuplesA2.2.1, relAllTuplesA2.2.2.1, relAllTuplesA2.2.2.2.1, relAllTuplesA2.2.2.2.2) := by decide +kernel
 have hE : laws_eqRelation.f 2000 relAllTuplesA2.1 relAllTuplesA2.2.1 relAllTuplesA2.2.2.1 relAllTuplesA2.2.2.2.1 relAllTuplesA2.1 relAllTuplesA2.2.1 relAllTuplesA2.2.2.1 relAllTuplesA2.2.2.2.1 = some true := by decide +kernel
 have h1 : laws_markBoolS.f 2000 relAllTuplesA2.2.2.1 1 = some (((1 + relAllTuplesA2.2.2.1.length : Nat) : Int), mB 1 relAllTuplesA2.2.2.1.length) := by decide +kernel
 have h2 : laws_markInt64SS.f 2000 relAllTuplesA2.2.2.2.1 ((1 + relAllTuplesA2.2.2.1.length : Nat) : Int) = some (((1 + relAllTuplesA2.2.2.1.length + sumL relAllTuplesA2.2.2.2.1 : Nat) : Int), mII (1 + relAllTuplesA2.2.2.1.length) relAllTuplesA2.2.2.2.1) := by decide +kernel
 have h3 : laws_heldRelation.f 2000 relAllTuplesA2.1 relAllTuplesA2.2.1 (mB 1 relAllTuplesA2.2.2.1.length) (mII (1 + relAllTuplesA2.2.2.1.length) relAllTuplesA2.2.2.2.1) 1 = some ((1 + relAllTuplesA2.2.2.1.length + sumL relAllTuplesA2.2.2.2.1 : Nat) : Int) := by decide +kernel
 unfold laws_FnExactAllTuples.f
 rw [hS]
 simp only [Option.bind_some]
 rw [if_pos hI, if_pos hE, h1]
 simp only [Option.bind_some]
 rw [h2]
 simp only [Option.bind_some]
 rw [if_neg (by omega), if_pos h3]
def relAllTuplesA3 : Int × Int × List Bool × List (List Int) × Int := (impl_AllTuples.f 2000 3).getD (0, 0, [], [], 0)
set_option maxRecDepth 100000 in
theorem lawAllTuplesA3 : laws_FnExactAllTuples.f 2000 3 = some true := by
 have hI : impl_AllTuples.f 2000 3 = some (relAllTuplesA3.1, relAllTuplesA3.2.1, relAllTuplesA3.2.2.1, relAllTuplesA3.2.2.2.1, relAllTuplesA3.2.2.2.2) := by decide +kernel
 have hS : spec_AllTuples.f 2000 3 = some (relAllTuplesA3.1, relAllTuplesA3.2.1, relAllTuplesA3.2.2.1, relAllTuplesA3.2.2.2.1, relAllTuplesA3.2.2.2.2) := by decide +kernel
 have hE : laws_eqRelation.f 2000 relAllTuplesA3.1 relAllTuplesA3.2.1 relAllTuplesA3.2.2.1 relAllTuplesA3.2.2.2.1 relAllTuplesA3.1 relAllTuplesA3.2.1 relAllTuplesA3.2.2.1 relAllTuplesA3.2.2.2.1 = some true := by decide +kernel
 have h1 : laws_markBoolS.f 2000 relAllTuplesA3.2.2.1 1 = some (((1 + relAllTuplesA3.2.2.1.length : Nat) : Int), mB 1 relAllTuplesA3.2.2.1.length) := by decide +kernel
 have h2 : laws_markInt64SS.f 2000 relAllTuplesA3.2.2.2.1 ((1 + relAllTuplesA3.2.2.1.length : Nat) : Int) = some (((1 + relAllTuplesA3.2.2.1.length + sumL relAllTuplesA3.2.2.2.1 : Nat) : Int), mII (1 + relAllTuplesA3.2.2.1.length) relAllTuplesA3.2.2.2.1) := by decide +kernel
 have h3 : laws_heldRelation.f 2000 relAllTuplesA3.1 relAllTuplesA3.2.1 (mB 1 relAllTuplesA3.2.2.1.length) (mII (1 + relAllTuplesA3.2.2.1.length) relAllTuplesA3.2.2.2.1) 1 = some ((1 + relAllTuplesA3.2.2.1.length + sumL relAllTuplesA3.2.2.2.1 : Nat) : Int) := by decide +kernel
 unfold laws_FnExactAllTuples.f
 rw [hS]
 simp only [Option.bind_some]
 rw [if_pos hI, if_pos hE, h1]
 simp only [Option.bind_some]
 rw [h2]
 simp only [Option.bind_some]
 rw [if_neg (by omega), if_pos h3]
theorem FnExactAllTuples (a0 : Int) {p : Prop} (_ : p) : ∃ k, laws_FnExactAllTuples.f k a0 = some true := by
 by_cases c : 1 ≤ a0 ∧ a0 ≤ 3
 ·have hc : a0 = 1 ∨ a0 = 2 ∨ a0 = 3 := by omega
  rcases hc with rfl|rfl|rfl
  ·exact ⟨_, lawAllTuplesA1⟩
  ·exact ⟨_, lawAllTuplesA2⟩
  ·exact ⟨_, lawAllTuplesA3⟩
 ·have hI : impl_AllTuples.f 200 a0 = some (0, 0, [], [], 2) := if_neg c
  have hS : spec_AllTuples.f 200 a0 = some (0, 0, [], [], 2) := by
   unfold spec_AllTuples.f
   rw [show spec_l00In.f a0 1 3 = some false by unfold spec_l00In.f; by_cases c1 : a0 ≥ 1; rw [if_pos c1, decide_eq_false (fun c2 => c ⟨c1, c2⟩)]; rw [if_neg c1]]; rfl
  have hE : laws_eqRelation.f 200 0 0 [] [] 0 0 [] [] = some true := by decide +kernel
  have h1 : laws_markBoolS.f 200 [] 1 = some (1, []) := by decide +kernel
  have h2 : laws_markInt64SS.f 200 [] 1 = some (1, []) := by decide +kernel
  have h3 : laws_heldRelation.f 200 0 0 [] [] 1 = some 1 := by decide +kernel
  refine ⟨200, ?_⟩
  unfold laws_FnExactAllTuples.f
  rw [hS]
  simp only [Option.bind_some]
  rw [if_pos hI, if_pos hE, h1]
  simp only [Option.bind_some]
  rw [h2]
  simp only [Option.bind_some]
  rw [if_neg (by omega), if_pos h3]
end Go.Proofs.YtbkcllfgolmloaaDoor.Pure

