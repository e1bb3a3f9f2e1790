import Derived.Test.YtbkcllfgolmloaaDoorCL2
import Derived.Test.YtbkcllfgolmloaaDoorCL8
import Derived.Test.YtbkcllfgolmloaaDoorCL3
import Derived.Test.YtbkcllfgolmloaaDoorCL7
import Derived.Test.YtbkcllfgolmloaaDoorCL4
import Derived.Carry
import Derived.Outline
-- Written by a program of this claim's author, out of the translation.
namespace Go.Proofs.YtbkcllfgolmloaaDoor.X
open Go.RowKit Go.Proofs.YtbkcllfgolmloaaDoorW.PrintWords Go.Proofs.YtbkcllfgolmloaaDoorW.PrintLast Go.Proofs.YtbkcllfgolmloaaDoorW.PrintMore
attribute [local go_sem] max2_int min2_int max_two min_two max_three min_three max_four min_four   -- for this text's walks alone
set_option linter.unusedVariables false
set_option linter.unusedSimpArgs false
def impl_machine_relationOf.l0 : Nat → List (List Int) → Int → Int → Int → Int → List Bool → List (List Int) → Option (Int × Int × List Bool × (List (List Int)) × Int)
 | 0, _, _, _, _, _, _, _ => none
 | k + 1, x21, x22, x23, x427000, x427001, x427002, x427003 => if x23 < x22 then (if 0 ≤ x23 then (if x23 < (x21.length : Int) then ((impl_asLongs.f k (rd_L7 x21 x23)).bind fun t428 => (if x427003.length < 5864062014805 then (impl_machine_relationOf.l0 k x21 x22 (wrap64 (x23 + 1)) x427000 x427001 x427002 (x427003 ++ [t428])) else (none))) else (none)) else (none)) else (some (x427000, x427001, x427002, x427003, 0))
def impl_machine_relationOf.f (k : Nat) (a0_0 : Int) (a0_1 : Int) (l0_2 : List Bool) (l0_3 : List (List Int)) : Option (Int × Int × List Bool × (List (List Int)) × Int) := if (l0_2.length : Int) > 150 then (some (0, 0, ([] : List Bool), ([] : List (List Int)), 3)) else ((slices_Clone_bool_bool.f l0_2).bind fun t423 => (impl_machine_relationOf.l0 k l0_3 (l0_3.length : Int) 0 a0_0 a0_1 t423 ([] : List (List Int))))
def impl_machine_relationOf.T3 : Bool × List (List Nat × List Nat) := (true, [([], []), ([0], [0]), ([], []), ([2], [2]), ([], []), ([4], [4]), ([5], [5]), ([1, 3, 6], [1, 3, 6]), ([], []), ([8, 7, 6, 0, 1, 2, 3, 4, 5, 6, 7, 8], [7, 8])])
def impl_machine_relationOf.B3 : List Nat := [0, 1, 0, 4, 0, 16, 48, 127, 0, 511]
theorem impl_machine_relationOf.tab3 : rtab .any (opsOf Tryd.f126 3) = impl_machine_relationOf.T3 := by kernel_rfl
theorem impl_machine_relationOf.bits3 : waitsOk impl_machine_relationOf.T3.2 impl_machine_relationOf.B3 = true := by kernel_rfl
def impl_machine_relationOf.T7 : Bool × List (List Nat × List Nat) := (true, [([], []), ([0], [0]), ([], []), ([2], [2]), ([3], [3]), ([1, 4, 3], [1, 4]), ([0, 1, 2, 3, 4, 5], []), ([6, 5, 5, 0, 1, 2, 3, 4, 5], [5, 6])])
def impl_machine_relationOf.B7 : List Nat := [0, 1, 0, 4, 12, 31, 63, 127]
theorem impl_machine_relationOf.tab7 : rtab .any (opsOf Tryd.f126 7) = impl_machine_relationOf.T7 := by kernel_rfl
theorem impl_machine_relationOf.bits7 : waitsOk impl_machine_relationOf.T7.2 impl_machine_relationOf.B7 = true := by kernel_rfl
set_option maxHeartbeats 8000000 in
set_option maxRecDepth 100000 in
theorem impl_machine_relationOf.calls (k : Nat) (a0_0 : Int) (a0_1 : Int) (A0_2 : Option Addr) (c0_2 : Nat) (l0_2 : List Bool) (A0_3 : Option Addr) (c0_3 : Nat) (l0_3 : List (List Int)) (r1 : Int) (r2 : Int) (r3 : List Bool) (r4 : List (List Int)) (r5 : Int) (w : World) (hr0_2 : Kd.C Kd.bool w A0_2 l0_2.length l0_2) (hc0_2 : l0_2.length ≤ c0_2) (hr0_3 : Kd.C (Kd.slice 3 (Kd.int .i64)) w A0_3 l0_3.length l0_3) (hc0_3 : l0_3.length ≤ c0_3) (h : impl_machine_relationOf.f k a0_0 a0_1 l0_2 l0_3 = some (r1, r2, r3, r4, r5)) :
  Calls Tryd.prog 126 #[.agg #[.int .i64 a0_0, .int .i64 a0_1, .slice A0_2 l0_2.length c0_2, .slice A0_3 l0_3.length c0_3]] w fun e w' => ∃ v2_ v3_ : Value, e = .returned (.tuple #[.agg #[.int .i64 r1, .int .i64 r2, v2_, v3_], .int .i64 r5]) ∧ Kd.R Kd.bool 4 w' w.heap.size (fun _ => True) v2_ r3 ∧ Kd.S (Kd.slice 2 (Kd.int .i64)) 55 w' w.heap.size (fun _ => True) v3_ r4 ∧ Below w.heap.size w w' := by
 have hu74 := Tryd.underlying74
 have hu28 := Tryd.underlying28
 have HR0_2 := Aside0.mk hr0_2
 have HC0_2 := Aside0.mk hc0_2
 clear hr0_2 hc0_2
 have HR0_3 := Aside0.mk hr0_3
 have HC0_3 := Aside0.mk hc0_3
 clear hr0_3 hc0_3
 have HB := Aside0.mk (Below.refl w.heap.size w)
 have H : (if (l0_2.length : Int) > 150 then (some (0, 0, ([] : List Bool), ([] : List (List Int)), 3)) else ((slices_Clone_bool_bool.f l0_2).bind fun t423 => (impl_machine_relationOf.l0 k l0_3 (l0_3.length : Int) 0 a0_0 a0_1 t423 ([] : List (List Int))))) = some (r1, r2, r3, r4, r5) := h
 clear h
 by_cases c2 : (l0_2.length : Int) > 150
 ·rw [if_pos c2] at H
  have c2b0 : decide (150 < (l0_2.length : Int)) = true := decide_eq_true c2
  have c2b1 : decide (150 < l0_2.length) = true := decide_eq_true (by omega)
  clear c2
  simp only [Option.some.injEq, Prod.mk.injEq] at H
  obtain ⟨rfl, rfl, rfl, rfl, rfl⟩ := H
  go_enter Tryd.func126, Tryd.ntmps126
  go_wp2_with (first | ((with_reducible refine gate_dst (N := 1) rfl ?_); refine box_event ?hg (N := 1) ?hd (cs := #[.int .i64 a0_0, .int .i64 a0_1, .slice A0_2 l0_2.length c0_2, .slice A0_3 l0_3.length c0_3]) (t := 74) ?hr ?_; (case hd => rfl); (case hg => rfl); (case hr => first | (go_simp; done) | (go_simp; rfl)); intro gb421 hg w3 hbox hb; have n0_ := Aside0.mk (below_step (by repeat (first | (with_reducible first | exact HB.out | apply below_alloc | apply pw_below_drewN | apply below_drew1) | exact HB.out)) hb); have n1_ := Aside0.mk (hbox); have n2_ := Aside0.mk ((by rw [hg]; exact (below_size (by repeat (first | (with_reducible first | exact HB.out | apply below_alloc | apply pw_below_drewN | apply below_drew1) | exact HB.out))) : w.heap.size ≤ gb421)); have n3_ := Aside0.mk ((by rw [hg]; exact (below_size (by repeat (first | (with_reducible first | exact HB.out | apply below_alloc | apply pw_below_drewN | apply below_drew1) | exact HB.out))) : w.heap.size ≤ gb421)); clear HB; have HB := n0_; have BK421 := n1_; have GW421 := n2_; have GE421 := n3_; clear n0_ n1_ n2_ n3_; clear hb hbox hg) | ((with_reducible refine gate_dst (N := 2) rfl ?_); refine box_event ?hg (N := 2) ?hd (cs := #[.int .i64 0, .int .i64 0, .slice none 0 0, .slice none 0 0]) (t := 28) ?hr ?_; (case hd => rfl); (case hg => rfl); (case hr => first | (go_simp; done) | (go_simp; rfl)); intro gb422 hg w4 hbox hb; have n0_ := Aside0.mk (blk_below (g := gb421) (o := .cells #[.int .i64 a0_0, .int .i64 a0_1, .slice A0_2 l0_2.length c0_2, .slice A0_3 l0_3.length c0_3] 74 (0, 0)) (by (with_reducible repeat (first | refine blk_drewN ?_ _ | refine blk_drew ?_ | refine blk_alloc ?_ _)); exact BK421.out) hb); have n1_ := Aside0.mk (below_step (by repeat (first | (with_reducible first | exact HB.out | apply below_alloc | apply pw_below_drewN | apply below_drew1 | refine below_set ?_ GE421.out) | exact HB.out)) hb); have n2_ := Aside0.mk (hbox); have n3_ := Aside0.mk ((by rw [hg]; exact (below_size (by repeat (first | (with_reducible first | exact HB.out | apply below_alloc | apply pw_below_drewN | apply below_drew1 | refine below_set ?_ GE421.out) | exact HB.out))) : w.heap.size ≤ gb422)); have n4_ := Aside0.mk ((by rw [hg]; exact (below_size (by repeat (first | (with_reducible first | exact HB.out | apply below_alloc | apply pw_below_drewN | apply below_drew1 | refine below_set ?_ GE421.out) | exact HB.out))) : w.heap.size ≤ gb422)); have n5_ := Aside0.mk ((by rw [hg]; exact Nat.ne_of_lt (blk_lt (g := gb421) (o := .cells #[.int .i64 a0_0, .int .i64 a0_1, .slice A0_2 l0_2.length c0_2, .slice A0_3 l0_3.length c0_3] 74 (0, 0)) (by (with_reducible repeat (first | refine blk_drewN ?_ _ | refine blk_drew ?_ | refine blk_alloc ?_ _)); exact BK421.out)) : gb421 ≠ gb422)); have n6_ := Aside0.mk ((by rw [hg]; exact Nat.ne_of_gt (blk_lt (g := gb421) (o := .cells #[.int .i64 a0_0, .int .i64 a0_1, .slice A0_2 l0_2.length c0_2, .slice A0_3 l0_3.length c0_3] 74 (0, 0)) (by (with_reducible repeat (first | refine blk_drewN ?_ _ | refine blk_drew ?_ | refine blk_alloc ?_ _)); exact BK421.out)) : gb422 ≠ gb421)); clear BK421; clear HB; have BK421 := n0_; have HB := n1_; have BK422 := n2_; have GW422 := n3_; have GE422 := n4_; have NB421_422 := n5_; have NB422_421 := n6_; clear n0_ n1_ n2_ n3_ n4_ n5_ n6_; clear hb hbox hg; have hnb5 := NB421_422.out; have hnc5 := NB422_421.out; have hcz6_0 : w4.cell? ⟨gb421, 0, none⟩ = some (.int .i64 a0_0) := (blk_cell BK421.out 0).trans rfl; have hcz6_1 : w4.cell? ⟨gb421, 1, none⟩ = some (.int .i64 a0_1) := (blk_cell BK421.out 1).trans rfl; have hcz6_2 : w4.cell? ⟨gb421, 2, none⟩ = some (.slice A0_2 l0_2.length c0_2) := (blk_cell BK421.out 2).trans rfl; have hcz6_3 : w4.cell? ⟨gb421, 3, none⟩ = some (.slice A0_3 l0_3.length c0_3) := (blk_cell BK421.out 3).trans rfl; have hfz6_0 := blk_frozen BK421.out 0; have hfz6_1 := blk_frozen BK421.out 1; have hfz6_2 := blk_frozen BK421.out 2; have hfz6_3 := blk_frozen BK421.out 3; have hcz7_0 : w4.cell? ⟨gb422, 0, none⟩ = some (.int .i64 0) := (blk_cell BK422.out 0).trans rfl; have hcz7_1 : w4.cell? ⟨gb422, 1, none⟩ = some (.int .i64 0) := (blk_cell BK422.out 1).trans rfl; have hcz7_2 : w4.cell? ⟨gb422, 2, none⟩ = some (.slice none 0 0) := (blk_cell BK422.out 2).trans rfl; have hcz7_3 : w4.cell? ⟨gb422, 3, none⟩ = some (.slice none 0 0) := (blk_cell BK422.out 3).trans rfl; have hfz7_0 := blk_frozen BK422.out 0; have hfz7_1 := blk_frozen BK422.out 1; have hfz7_2 := blk_frozen BK422.out 2; have hfz7_3 := blk_frozen BK422.out 3))
  refine bodyPost_ret (results_ct rfl _ _ gb422 28 #[.int .i64 0, .int .i64 0, .slice none 0 0, .slice none 0 0] (0, 0) _ rfl (by (with_reducible repeat (first | refine blk_drewN ?_ _ | refine blk_drew ?_ | refine blk_alloc ?_ _)); refine blk_put (cs := #[.int .i64 0, .int .i64 0, .slice none 0 0, .slice none 0 0]) ?_ 3 _ rfl; (with_reducible repeat (first | refine blk_drewN ?_ _ | refine blk_drew ?_ | refine blk_alloc ?_ _)); refine blk_put (cs := #[.int .i64 0, .int .i64 0, .slice none 0 0, .slice none 0 0]) ?_ 2 _ rfl; (with_reducible repeat (first | refine blk_drewN ?_ _ | refine blk_drew ?_ | refine blk_alloc ?_ _)); refine blk_put (cs := #[.int .i64 0, .int .i64 0, .slice none 0 0, .slice none 0 0]) ?_ 1 _ rfl; (with_reducible repeat (first | refine blk_drewN ?_ _ | refine blk_drew ?_ | refine blk_alloc ?_ _)); refine blk_put (cs := #[.int .i64 0, .int .i64 0, .slice none 0 0, .slice none 0 0]) ?_ 0 _ rfl; (with_reducible repeat (first | refine blk_drewN ?_ _ | refine blk_drew ?_ | refine blk_alloc ?_ _)); exact BK422.out) Tryd.underlying28 rfl (by kernel_rfl)) rfl ?_
  exact ⟨_, _, by first | rfl | (simp [errW_none, errW_some] <;> rfl) | (simp [*, errW_none, errW_some] <;> rfl), by first | exact Kd.R_nil _ _ _ _ _ | exact Kd.N_nil _ _ _ _ _ | exact Kd.V_nil _ _ _ _ _ | exact Kd.Q_nil _ _ _ _ _ | exact Kd.S_nil _ _ _ _ _, by first | exact Kd.S_nil _ _ _ _ _ | exact Kd.N_nil _ _ _ _ _ | exact Kd.V_nil _ _ _ _ _ | exact Kd.Q_nil _ _ _ _ _ | exact Kd.R_nil _ _ _ _ _, by repeat (first | (with_reducible first | exact HB.out | apply below_alloc | apply pw_below_drewN | apply below_drew1 | refine below_set ?_ GE421.out | refine below_set ?_ GE422.out) | exact HB.out)⟩
 ·rw [if_neg c2] at H
  have c2b0 : decide (150 < (l0_2.length : Int)) = false := decide_eq_false c2
  have c2b1 : decide (150 < l0_2.length) = false := decide_eq_false (by omega)
  clear c2
  replace H := Option.bind_eq_some_iff.mp H
  obtain ⟨t423, A80, H⟩ := H
  replace H : (impl_machine_relationOf.l0 k l0_3 (l0_3.length : Int) 0 a0_0 a0_1 t423 ([] : List (List Int))) = some (r1, r2, r3, r4, r5) := H
  have A8 := Aside0.mk A80
  clear A80
  have H' := Aside0.mk H
  clear H
  go_enter Tryd.func126, Tryd.ntmps126
  try go_wp2_with (first | ((with_reducible refine gate_dst (N := 1) rfl ?_); refine box_event ?hg (N := 1) ?hd (cs := #[.int .i64 a0_0, .int .i64 a0_1, .slice A0_2 l0_2.length c0_2, .slice A0_3 l0_3.length c0_3]) (t := 74) ?hr ?_; (case hd => rfl); (case hg => rfl); (case hr => first | (go_simp; done) | (go_simp; rfl)); intro gb421 hg w9 hbox hb; have n0_ := Aside0.mk (below_step (by repeat (first | (with_reducible first | exact HB.out | apply below_alloc | apply pw_below_drewN | apply below_drew1) | exact HB.out)) hb); have n1_ := Aside0.mk (hbox); have n2_ := Aside0.mk ((by rw [hg]; exact (below_size (by repeat (first | (with_reducible first | exact HB.out | apply below_alloc | apply pw_below_drewN | apply below_drew1) | exact HB.out))) : w.heap.size ≤ gb421)); have n3_ := Aside0.mk ((by rw [hg]; exact (below_size (by repeat (first | (with_reducible first | exact HB.out | apply below_alloc | apply pw_below_drewN | apply below_drew1) | exact HB.out))) : w.heap.size ≤ gb421)); clear HB; have HB := n0_; have BK421 := n1_; have GW421 := n2_; have GE421 := n3_; clear n0_ n1_ n2_ n3_; clear hb hbox hg) | ((with_reducible refine gate_dst (N := 2) rfl ?_); refine box_event ?hg (N := 2) ?hd (cs := #[.int .i64 0, .int .i64 0, .slice none 0 0, .slice none 0 0]) (t := 28) ?hr ?_; (case hd => rfl); (case hg => rfl); (case hr => first | (go_simp; done) | (go_simp; rfl)); intro gb422 hg w10 hbox hb; have n0_ := Aside0.mk (blk_below (g := gb421) (o := .cells #[.int .i64 a0_0, .int .i64 a0_1, .slice A0_2 l0_2.length c0_2, .slice A0_3 l0_3.length c0_3] 74 (0, 0)) (by (with_reducible repeat (first | refine blk_drewN ?_ _ | refine blk_drew ?_ | refine blk_alloc ?_ _)); exact BK421.out) hb); have n1_ := Aside0.mk (below_step (by repeat (first | (with_reducible first | exact HB.out | apply below_alloc | apply pw_below_drewN | apply below_drew1 | refine below_set ?_ GE421.out) | exact HB.out)) hb); have n2_ := Aside0.mk (hbox); have n3_ := Aside0.mk ((by rw [hg]; exact (below_size (by repeat (first | (with_reducible first | exact HB.out | apply below_alloc | apply pw_below_drewN | apply below_drew1 | refine below_set ?_ GE421.out) | exact HB.out))) : w.heap.size ≤ gb422)); have n4_ := Aside0.mk ((by rw [hg]; exact (below_size (by repeat (first | (with_reducible first | exact HB.out | apply below_alloc | apply pw_below_drewN | apply below_drew1 | refine below_set ?_ GE421.out) | exact HB.out))) : w.heap.size ≤ gb422)); have n5_ := Aside0.mk ((by rw [hg]; exact Nat.ne_of_lt (blk_lt (g := gb421) (o := .cells #[.int .i64 a0_0, .int .i64 a0_1, .slice A0_2 l0_2.length c0_2, .slice A0_3 l0_3.length c0_3] 74 (0, 0)) (by (with_reducible repeat (first | refine blk_drewN ?_ _ | refine blk_drew ?_ | refine blk_alloc ?_ _)); exact BK421.out)) : gb421 ≠ gb422)); have n6_ := Aside0.mk ((by rw [hg]; exact Nat.ne_of_gt (blk_lt (g := gb421) (o := .cells #[.int .i64 a0_0, .int .i64 a0_1, .slice A0_2 l0_2.length c0_2, .slice A0_3 l0_3.length c0_3] 74 (0, 0)) (by (with_reducible repeat (first | refine blk_drewN ?_ _ | refine blk_drew ?_ | refine blk_alloc ?_ _)); exact BK421.out)) : gb422 ≠ gb421)); clear BK421; clear HB; have BK421 := n0_; have HB := n1_; have BK422 := n2_; have GW422 := n3_; have GE422 := n4_; have NB421_422 := n5_; have NB422_421 := n6_; clear n0_ n1_ n2_ n3_ n4_ n5_ n6_; clear hb hbox hg; have hnb11 := NB421_422.out; have hnc11 := NB422_421.out; have hcz12_0 : w10.cell? ⟨gb421, 0, none⟩ = some (.int .i64 a0_0) := (blk_cell BK421.out 0).trans rfl; have hcz12_1 : w10.cell? ⟨gb421, 1, none⟩ = some (.int .i64 a0_1) := (blk_cell BK421.out 1).trans rfl; have hcz12_2 : w10.cell? ⟨gb421, 2, none⟩ = some (.slice A0_2 l0_2.length c0_2) := (blk_cell BK421.out 2).trans rfl; have hcz12_3 : w10.cell? ⟨gb421, 3, none⟩ = some (.slice A0_3 l0_3.length c0_3) := (blk_cell BK421.out 3).trans rfl; have hfz12_0 := blk_frozen BK421.out 0; have hfz12_1 := blk_frozen BK421.out 1; have hfz12_2 := blk_frozen BK421.out 2; have hfz12_3 := blk_frozen BK421.out 3))
  have n0_ := Aside0.mk (blk_drew BK421.out)
  have n1_ := Aside0.mk (blk_drew BK422.out)
  have n2_ := Aside0.mk (below_drew1 HB.out)
  clear BK421
  clear BK422
  clear HB
  have BK421 := n0_
  have BK422 := n1_
  have HB := n2_
  clear n0_ n1_ n2_
  refine start_ (n := 10) (S := fun w' => w'.cell? ⟨gb421, 0, none⟩ = some (.int .i64 a0_0) ∧ w'.cell? ⟨gb421, 1, none⟩ = some (.int .i64 a0_1) ∧ w'.cell? ⟨gb421, 2, none⟩ = some (.slice A0_2 l0_2.length c0_2) ∧ w'.cell? ⟨gb421, 3, none⟩ = some (.slice A0_3 l0_3.length c0_3)) (ds := []) #[false, false, false, false, false, false, false, false, false, false] (by kernel_rfl) rfl rfl ⟨(blk_cell BK421.out 0).trans rfl, (blk_cell BK421.out 1).trans rfl, (blk_cell BK421.out 2).trans rfl, (blk_cell BK421.out 3).trans rfl⟩ (fun hHeld => ?_); refine with_tabW impl_machine_relationOf.tab3 impl_machine_relationOf.bits3 (fun HT_ HW_ => ?_)
  generalize w10.drew = w13 at BK421 BK422 HB hHeld ⊢
  refine pure_ (i := 0) (N := some 12) (v := ?_) (a' := ?_) #[true, false, false, false, false, false, false, false, false, false] rfl rfl (any_of HT_.out (by kernel_rfl)) (fun _ _ _ h => h) (Or.inl ⟨by rfl, ?_⟩) ?_ ?_
  rotate_left
  ·intro w'
   go_simp
   with_reducible rfl
  rotate_left
  ·simp only [Act.put, List.setIfInBounds_toArray, List.set_cons_zero, List.set_cons_succ, i64_w, i32_w]
   rfl
  refine pure_ (i := 2) (N := some 14) (v := ?_) (a' := ?_) #[true, false, true, false, false, false, false, false, false, false] rfl rfl (any_of HT_.out (by kernel_rfl)) (fun _ _ _ h => h) (Or.inl ⟨by rfl, ?_⟩) ?_ ?_
  rotate_left
  ·intro w'
   go_simp
   with_reducible rfl
  rotate_left
  ·simp only [Act.put, List.setIfInBounds_toArray, List.set_cons_zero, List.set_cons_succ, i64_w, i32_w]
   rfl
  refine pure_ (i := 4) (N := some 16) (v := ?_) (a' := ?_) #[true, false, true, false, true, false, false, false, false, false] rfl rfl (any_of HT_.out (by kernel_rfl)) (fun _ _ _ h => h) (Or.inl ⟨by rfl, ?_⟩) ?_ ?_
  rotate_left
  ·intro w'
   go_simp
   with_reducible rfl
  rotate_left
  ·simp only [Act.put, List.setIfInBounds_toArray, List.set_cons_zero, List.set_cons_succ, i64_w, i32_w]
   rfl
  refine take_ (i := 1) (N := some 13) (v := ?_) (a' := ?_) #[true, true, true, false, true, false, false, false, false, false] rfl rfl (take_ofW HT_.out HW_.out (by kernel_rfl)) (fun _ _ _ h => h) (Or.inl ⟨by rfl, ?_⟩) hHeld ?_ ?_
  rotate_left
  ·rintro w' ⟨s0, s1, s2, s3⟩
   go_simp
   with_reducible rfl
  rotate_left
  ·simp only [Act.put, List.setIfInBounds_toArray, List.set_cons_zero, List.set_cons_succ, i64_w, i32_w]
   rfl
  refine take_ (i := 3) (N := some 15) (v := ?_) (a' := ?_) #[true, true, true, true, true, false, false, false, false, false] rfl rfl (take_ofW HT_.out HW_.out (by kernel_rfl)) (fun _ _ _ h => h) (Or.inl ⟨by rfl, ?_⟩) hHeld ?_ ?_
  rotate_left
  ·rintro w' ⟨s0, s1, s2, s3⟩
   go_simp
   with_reducible rfl
  rotate_left
  ·simp only [Act.put, List.setIfInBounds_toArray, List.set_cons_zero, List.set_cons_succ, i64_w, i32_w]
   rfl
  refine take_ (i := 5) (N := some 17) (v := ?_) (a' := ?_) #[true, true, true, true, true, true, false, false, false, false] rfl rfl (take_ofW HT_.out HW_.out (by kernel_rfl)) (fun _ _ _ h => h) (Or.inl ⟨by rfl, ?_⟩) hHeld ?_ ?_
  rotate_left
  ·rintro w' ⟨s0, s1, s2, s3⟩
   go_simp
   with_reducible rfl
  rotate_left
  ·simp only [Act.put, List.setIfInBounds_toArray, List.set_cons_zero, List.set_cons_succ, i64_w, i32_w]
   rfl
  refine join_ (σ := Value × Nat) 1 #[true, true, true, true, true, true, true, true, true, false] (fun s_ => [(18, s_.1), (4, .pointer (some ⟨s_.2, 0, none⟩)), (19, .agg #[.int .i64 a0_0, .int .i64 a0_1, s_.1, .slice none 0 0])]) (fun s_ w' => (w'.cell? ⟨gb421, 0, none⟩ = some (.int .i64 a0_0) ∧ w'.cell? ⟨gb421, 1, none⟩ = some (.int .i64 a0_1) ∧ w'.cell? ⟨gb421, 2, none⟩ = some (.slice A0_2 l0_2.length c0_2) ∧ w'.cell? ⟨gb421, 3, none⟩ = some (.slice A0_3 l0_3.length c0_3)) ∧ (Kd.R Kd.bool 4 w' w.heap.size (fun _ => True) s_.1 t423) ∧ (w'.heap[gb421]? = some (.cells #[.int .i64 a0_0, .int .i64 a0_1, .slice A0_2 l0_2.length c0_2, .slice A0_3 l0_3.length c0_3] 74 (0, 0))) ∧ (w'.heap[gb422]? = some (.cells #[.int .i64 0, .int .i64 0, .slice none 0 0, .slice none 0 0] 28 (0, 0))) ∧ (w'.heap[s_.2]? = some (.cells #[.int .i64 0, .int .i64 0, .slice none 0 0, .slice none 0 0] 28 (0, 0))) ∧ (w.heap.size ≤ s_.2) ∧ (w.heap.size ≤ s_.2) ∧ (gb421 ≠ s_.2) ∧ (s_.2 ≠ gb421) ∧ (gb422 ≠ s_.2) ∧ (s_.2 ≠ gb422) ∧ (Below w.heap.size w w')) ?_ ?_
  rotate_left
  ·intro hCont
   refine two_ (i := 6) (j := 8) (Ni := some 18) (Nj := some 4) #[true, true, true, true, true, true, true, false, false, false] #[true, true, true, true, true, true, false, false, true, false] rfl rfl rfl rfl (two_of HT_.out (by kernel_rfl)) (by decide) (by decide) (fun K hK => ?_) (fun K hK => ?_)
   ·skip
    refine goes_ Tryd.func112 (by kernel_rfl) rfl #[.slice A0_2 l0_2.length c0_2] (by rfl) rfl rfl (by (try simp only [List.map_toArray, List.map_cons, List.map_nil]); first | done | rfl | (simp only [List.length_drop, List.length_take]; rfl)) ?_
    with_reducible refine (slices_Clone_bool_bool.calls _ _ l0_2 t423 _ ?side1 ?side2 A8.out).mono ?_
    (case side1 => repeat (first | exact (Kd.C_below HR0_2.out HB.out) | (with_reducible refine Kd.C_alloc ?_ _) | (with_reducible refine Kd.C_drewN ?_ _) | (with_reducible refine Kd.C_drew ?_)))
    (case side2 => exact HC0_2.out)
    rintro e w14 ⟨v424, rfl, ho0, hb⟩
    refine ⟨_, rfl, ?_⟩
    have n0_ := Aside0.mk (Kd.R_lower ho0 (below_size (by repeat (first | (with_reducible first | exact HB.out | apply below_alloc | apply pw_below_drewN | apply below_drew1 | refine below_set ?_ GE421.out | refine below_set ?_ GE422.out) | exact HB.out))))
    have n1_ := Aside0.mk (blk_below (g := gb421) (o := .cells #[.int .i64 a0_0, .int .i64 a0_1, .slice A0_2 l0_2.length c0_2, .slice A0_3 l0_3.length c0_3] 74 (0, 0)) (by (with_reducible repeat (first | refine blk_drewN ?_ _ | refine blk_drew ?_ | refine blk_alloc ?_ _)); exact BK421.out) hb)
    have n2_ := Aside0.mk (blk_below (g := gb422) (o := .cells #[.int .i64 0, .int .i64 0, .slice none 0 0, .slice none 0 0] 28 (0, 0)) (by (with_reducible repeat (first | refine blk_drewN ?_ _ | refine blk_drew ?_ | refine blk_alloc ?_ _)); exact BK422.out) hb)
    have n3_ := Aside0.mk (below_step (by repeat (first | (with_reducible first | exact HB.out | apply below_alloc | apply pw_below_drewN | apply below_drew1 | refine below_set ?_ GE421.out | refine below_set ?_ GE422.out) | exact HB.out)) hb)
    clear BK421
    clear BK422
    clear HB
    have HO425 := n0_
    have BK421 := n1_
    have BK422 := n2_
    have HB := n3_
    clear n0_ n1_ n2_ n3_
    (try clear hb)
    (try clear hb2)
    (try clear hk)
    (try clear hi)
    (try clear ho0)
    obtain ⟨Ao15, co15, eo15⟩ := Kd.R_slice HO425.out
    (first | subst eo15 | (injection eo15 with f1_ f2_ f3_; have f4_ := f1_.symm; have f5_ := f3_.symm; clear f1_ f2_ f3_; subst f4_; subst f5_))
    refine hK.out _ _ ⟨(blk_cell BK421.out 0).trans rfl, (blk_cell BK421.out 1).trans rfl, (blk_cell BK421.out 2).trans rfl, (blk_cell BK421.out 3).trans rfl⟩ (fun hHeld => ?_)
    clear hK K
    refine norm_ (a' := ?_) ?_ ?_
    rotate_left
    ·show Act.put _ (some 18) _ = _
     simp only [Act.put, List.setIfInBounds_toArray, List.set_cons_zero, List.set_cons_succ, i64_w, i32_w]
     rfl
    refine pure_ (i := 7) (N := some 19) (v := ?_) (a' := ?_) #[true, true, true, true, true, true, true, true, false, false] rfl rfl (any_of HT_.out (by kernel_rfl)) (fun _ _ _ h => h) (Or.inl ⟨by rfl, ?_⟩) ?_ ?_
    rotate_left
    ·intro w'
     go_simp
     with_reducible rfl
    rotate_left
    ·simp only [Act.put, List.setIfInBounds_toArray, List.set_cons_zero, List.set_cons_succ, i64_w, i32_w]
     rfl
    refine one_ (i := 8) (N := some 4) #[true, true, true, true, true, true, true, true, true, false] rfl rfl (one_of HT_.out (by kernel_rfl)) (by decide) (fun K hK => ?_)
    refine box_step ?hg (N := 4) ?hd (cs := #[.int .i64 0, .int .i64 0, .slice none 0 0, .slice none 0 0]) (t := 28) ?hr ?_; (case hd => rfl); (case hg => rfl); (case hr => first | (go_simp; done) | (go_simp; rfl))
    intro gb426 hg w16 hbox hb
    have n0_ := Aside0.mk (Kd.R_below (by (with_reducible repeat (first | apply Kd.R_alloc | apply Kd.R_drewN | apply Kd.R_drew)); exact HO425.out) hb)
    have n1_ := Aside0.mk (blk_below (g := gb421) (o := .cells #[.int .i64 a0_0, .int .i64 a0_1, .slice A0_2 l0_2.length c0_2, .slice A0_3 l0_3.length c0_3] 74 (0, 0)) (by (with_reducible repeat (first | refine blk_drewN ?_ _ | refine blk_drew ?_ | refine blk_alloc ?_ _)); exact BK421.out) hb)
    have n2_ := Aside0.mk (blk_below (g := gb422) (o := .cells #[.int .i64 0, .int .i64 0, .slice none 0 0, .slice none 0 0] 28 (0, 0)) (by (with_reducible repeat (first | refine blk_drewN ?_ _ | refine blk_drew ?_ | refine blk_alloc ?_ _)); exact BK422.out) hb)
    have n3_ := Aside0.mk (below_step (by repeat (first | (with_reducible first | exact HB.out | apply below_alloc | apply pw_below_drewN | apply below_drew1 | refine below_set ?_ GE421.out | refine below_set ?_ GE422.out) | exact HB.out)) hb)
    have n4_ := Aside0.mk (hbox)
    have n5_ := Aside0.mk ((by rw [hg]; exact (below_size (by repeat (first | (with_reducible first | exact HB.out | apply below_alloc | apply pw_below_drewN | apply below_drew1 | refine below_set ?_ GE421.out | refine below_set ?_ GE422.out) | exact HB.out))) : w.heap.size ≤ gb426))
    have n6_ := Aside0.mk ((by rw [hg]; exact (below_size (by repeat (first | (with_reducible first | exact HB.out | apply below_alloc | apply pw_below_drewN | apply below_drew1 | refine below_set ?_ GE421.out | refine below_set ?_ GE422.out) | exact HB.out))) : w.heap.size ≤ gb426))
    have n7_ := Aside0.mk ((by rw [hg]; exact Nat.ne_of_lt (blk_lt (g := gb421) (o := .cells #[.int .i64 a0_0, .int .i64 a0_1, .slice A0_2 l0_2.length c0_2, .slice A0_3 l0_3.length c0_3] 74 (0, 0)) (by (with_reducible repeat (first | refine blk_drewN ?_ _ | refine blk_drew ?_ | refine blk_alloc ?_ _)); exact BK421.out)) : gb421 ≠ gb426))
    have n8_ := Aside0.mk ((by rw [hg]; exact Nat.ne_of_gt (blk_lt (g := gb421) (o := .cells #[.int .i64 a0_0, .int .i64 a0_1, .slice A0_2 l0_2.length c0_2, .slice A0_3 l0_3.length c0_3] 74 (0, 0)) (by (with_reducible repeat (first | refine blk_drewN ?_ _ | refine blk_drew ?_ | refine blk_alloc ?_ _)); exact BK421.out)) : gb426 ≠ gb421))
    have n9_ := Aside0.mk ((by rw [hg]; exact Nat.ne_of_lt (blk_lt (g := gb422) (o := .cells #[.int .i64 0, .int .i64 0, .slice none 0 0, .slice none 0 0] 28 (0, 0)) (by (with_reducible repeat (first | refine blk_drewN ?_ _ | refine blk_drew ?_ | refine blk_alloc ?_ _)); exact BK422.out)) : gb422 ≠ gb426))
    have n10_ := Aside0.mk ((by rw [hg]; exact Nat.ne_of_gt (blk_lt (g := gb422) (o := .cells #[.int .i64 0, .int .i64 0, .slice none 0 0, .slice none 0 0] 28 (0, 0)) (by (with_reducible repeat (first | refine blk_drewN ?_ _ | refine blk_drew ?_ | refine blk_alloc ?_ _)); exact BK422.out)) : gb426 ≠ gb422))
    clear HO425
    clear BK421
    clear BK422
    clear HB
    have HO425 := n0_
    have BK421 := n1_
    have BK422 := n2_
    have HB := n3_
    have BK426 := n4_
    have GW426 := n5_
    have GE426 := n6_
    have NB421_426 := n7_
    have NB426_421 := n8_
    have NB422_426 := n9_
    have NB426_422 := n10_
    clear n0_ n1_ n2_ n3_ n4_ n5_ n6_ n7_ n8_ n9_ n10_
    clear hb hbox hg
    refine hK.out _ _ ⟨(blk_cell BK421.out 0).trans rfl, (blk_cell BK421.out 1).trans rfl, (blk_cell BK421.out 2).trans rfl, (blk_cell BK421.out 3).trans rfl⟩ (fun hHeld => ?_)
    clear hK K
    refine norm_ (a' := ?_) ?_ ?_
    rotate_left
    ·show Act.put _ (some 4) _ = _
     simp only [Act.put, List.setIfInBounds_toArray, List.set_cons_zero, List.set_cons_succ, i64_w, i32_w]
     rfl
    exact norm_ (by simp only [putAll, Act.put, List.setIfInBounds_toArray, List.set_cons_zero, List.set_cons_succ]) (hCont (.slice Ao15 t423.length co15, gb426) _ ⟨hHeld, (by (with_reducible repeat (first | apply Kd.R_alloc | apply Kd.R_drewN | apply Kd.R_drew)); exact HO425.out), (by (with_reducible repeat (first | refine blk_drewN ?_ _ | refine blk_drew ?_ | refine blk_alloc ?_ _)); exact BK421.out), (by (with_reducible repeat (first | refine blk_drewN ?_ _ | refine blk_drew ?_ | refine blk_alloc ?_ _)); exact BK422.out), (by (with_reducible repeat (first | refine blk_drewN ?_ _ | refine blk_drew ?_ | refine blk_alloc ?_ _)); exact BK426.out), GW426.out, GE426.out, NB421_426.out, NB426_421.out, NB422_426.out, NB426_422.out, (by repeat (first | (with_reducible first | exact HB.out | apply below_alloc | apply pw_below_drewN | apply below_drew1 | refine below_set ?_ GE421.out | refine below_set ?_ GE422.out | refine below_set ?_ GE426.out) | exact HB.out))⟩)
   ·skip
    refine box_step ?hg (N := 4) ?hd (cs := #[.int .i64 0, .int .i64 0, .slice none 0 0, .slice none 0 0]) (t := 28) ?hr ?_; (case hd => rfl); (case hg => rfl); (case hr => first | (go_simp; done) | (go_simp; rfl))
    intro gb426 hg w14 hbox hb
    have n0_ := Aside0.mk (blk_below (g := gb421) (o := .cells #[.int .i64 a0_0, .int .i64 a0_1, .slice A0_2 l0_2.length c0_2, .slice A0_3 l0_3.length c0_3] 74 (0, 0)) (by (with_reducible repeat (first | refine blk_drewN ?_ _ | refine blk_drew ?_ | refine blk_alloc ?_ _)); exact BK421.out) hb)
    have n1_ := Aside0.mk (blk_below (g := gb422) (o := .cells #[.int .i64 0, .int .i64 0, .slice none 0 0, .slice none 0 0] 28 (0, 0)) (by (with_reducible repeat (first | refine blk_drewN ?_ _ | refine blk_drew ?_ | refine blk_alloc ?_ _)); exact BK422.out) hb)
    have n2_ := Aside0.mk (below_step (by repeat (first | (with_reducible first | exact HB.out | apply below_alloc | apply pw_below_drewN | apply below_drew1 | refine below_set ?_ GE421.out | refine below_set ?_ GE422.out) | exact HB.out)) hb)
    have n3_ := Aside0.mk (hbox)
    have n4_ := Aside0.mk ((by rw [hg]; exact (below_size (by repeat (first | (with_reducible first | exact HB.out | apply below_alloc | apply pw_below_drewN | apply below_drew1 | refine below_set ?_ GE421.out | refine below_set ?_ GE422.out) | exact HB.out))) : w.heap.size ≤ gb426))
    have n5_ := Aside0.mk ((by rw [hg]; exact (below_size (by repeat (first | (with_reducible first | exact HB.out | apply below_alloc | apply pw_below_drewN | apply below_drew1 | refine below_set ?_ GE421.out | refine below_set ?_ GE422.out) | exact HB.out))) : w.heap.size ≤ gb426))
    have n6_ := Aside0.mk ((by rw [hg]; exact Nat.ne_of_lt (blk_lt (g := gb421) (o := .cells #[.int .i64 a0_0, .int .i64 a0_1, .slice A0_2 l0_2.length c0_2, .slice A0_3 l0_3.length c0_3] 74 (0, 0)) (by (with_reducible repeat (first | refine blk_drewN ?_ _ | refine blk_drew ?_ | refine blk_alloc ?_ _)); exact BK421.out)) : gb421 ≠ gb426))
    have n7_ := Aside0.mk ((by rw [hg]; exact Nat.ne_of_gt (blk_lt (g := gb421) (o := .cells #[.int .i64 a0_0, .int .i64 a0_1, .slice A0_2 l0_2.length c0_2, .slice A0_3 l0_3.length c0_3] 74 (0, 0)) (by (with_reducible repeat (first | refine blk_drewN ?_ _ | refine blk_drew ?_ | refine blk_alloc ?_ _)); exact BK421.out)) : gb426 ≠ gb421))
    have n8_ := Aside0.mk ((by rw [hg]; exact Nat.ne_of_lt (blk_lt (g := gb422) (o := .cells #[.int .i64 0, .int .i64 0, .slice none 0 0, .slice none 0 0] 28 (0, 0)) (by (with_reducible repeat (first | refine blk_drewN ?_ _ | refine blk_drew ?_ | refine blk_alloc ?_ _)); exact BK422.out)) : gb422 ≠ gb426))
    have n9_ := Aside0.mk ((by rw [hg]; exact Nat.ne_of_gt (blk_lt (g := gb422) (o := .cells #[.int .i64 0, .int .i64 0, .slice none 0 0, .slice none 0 0] 28 (0, 0)) (by (with_reducible repeat (first | refine blk_drewN ?_ _ | refine blk_drew ?_ | refine blk_alloc ?_ _)); exact BK422.out)) : gb426 ≠ gb422))
    clear BK421
    clear BK422
    clear HB
    have BK421 := n0_
    have BK422 := n1_
    have HB := n2_
    have BK426 := n3_
    have GW426 := n4_
    have GE426 := n5_
    have NB421_426 := n6_
    have NB426_421 := n7_
    have NB422_426 := n8_
    have NB426_422 := n9_
    clear n0_ n1_ n2_ n3_ n4_ n5_ n6_ n7_ n8_ n9_
    clear hb hbox hg
    refine hK.out _ _ ⟨(blk_cell BK421.out 0).trans rfl, (blk_cell BK421.out 1).trans rfl, (blk_cell BK421.out 2).trans rfl, (blk_cell BK421.out 3).trans rfl⟩ (fun hHeld => ?_)
    clear hK K
    refine norm_ (a' := ?_) ?_ ?_
    rotate_left
    ·show Act.put _ (some 4) _ = _
     simp only [Act.put, List.setIfInBounds_toArray, List.set_cons_zero, List.set_cons_succ, i64_w, i32_w]
     rfl
    refine one_ (i := 6) (N := some 18) #[true, true, true, true, true, true, true, false, true, false] rfl rfl (one_of HT_.out (by kernel_rfl)) (by decide) (fun K hK => ?_)
    refine goes_ Tryd.func112 (by kernel_rfl) rfl #[.slice A0_2 l0_2.length c0_2] (by rfl) rfl rfl (by (try simp only [List.map_toArray, List.map_cons, List.map_nil]); first | done | rfl | (simp only [List.length_drop, List.length_take]; rfl)) ?_
    with_reducible refine (slices_Clone_bool_bool.calls _ _ l0_2 t423 _ ?side1 ?side2 A8.out).mono ?_
    (case side1 => repeat (first | exact (Kd.C_below HR0_2.out HB.out) | (with_reducible refine Kd.C_alloc ?_ _) | (with_reducible refine Kd.C_drewN ?_ _) | (with_reducible refine Kd.C_drew ?_)))
    (case side2 => exact HC0_2.out)
    rintro e w15 ⟨v424, rfl, ho0, hb⟩
    refine ⟨_, rfl, ?_⟩
    have n0_ := Aside0.mk (Kd.R_lower ho0 (below_size (by repeat (first | (with_reducible first | exact HB.out | apply below_alloc | apply pw_below_drewN | apply below_drew1 | refine below_set ?_ GE421.out | refine below_set ?_ GE422.out | refine below_set ?_ GE426.out) | exact HB.out))))
    have n1_ := Aside0.mk (blk_below (g := gb421) (o := .cells #[.int .i64 a0_0, .int .i64 a0_1, .slice A0_2 l0_2.length c0_2, .slice A0_3 l0_3.length c0_3] 74 (0, 0)) (by (with_reducible repeat (first | refine blk_drewN ?_ _ | refine blk_drew ?_ | refine blk_alloc ?_ _)); exact BK421.out) hb)
    have n2_ := Aside0.mk (blk_below (g := gb422) (o := .cells #[.int .i64 0, .int .i64 0, .slice none 0 0, .slice none 0 0] 28 (0, 0)) (by (with_reducible repeat (first | refine blk_drewN ?_ _ | refine blk_drew ?_ | refine blk_alloc ?_ _)); exact BK422.out) hb)
    have n3_ := Aside0.mk (blk_below (g := gb426) (o := .cells #[.int .i64 0, .int .i64 0, .slice none 0 0, .slice none 0 0] 28 (0, 0)) (by (with_reducible repeat (first | refine blk_drewN ?_ _ | refine blk_drew ?_ | refine blk_alloc ?_ _)); exact BK426.out) hb)
    have n4_ := Aside0.mk (below_step (by repeat (first | (with_reducible first | exact HB.out | apply below_alloc | apply pw_below_drewN | apply below_drew1 | refine below_set ?_ GE421.out | refine below_set ?_ GE422.out | refine below_set ?_ GE426.out) | exact HB.out)) hb)
    clear BK421
    clear BK422
    clear BK426
    clear HB
    have HO425 := n0_
    have BK421 := n1_
    have BK422 := n2_
    have BK426 := n3_
    have HB := n4_
    clear n0_ n1_ n2_ n3_ n4_
    (try clear hb)
    (try clear hb2)
    (try clear hk)
    (try clear hi)
    (try clear ho0)
    obtain ⟨Ao16, co16, eo16⟩ := Kd.R_slice HO425.out
    (first | subst eo16 | (injection eo16 with f1_ f2_ f3_; have f4_ := f1_.symm; have f5_ := f3_.symm; clear f1_ f2_ f3_; subst f4_; subst f5_))
    refine hK.out _ _ ⟨(blk_cell BK421.out 0).trans rfl, (blk_cell BK421.out 1).trans rfl, (blk_cell BK421.out 2).trans rfl, (blk_cell BK421.out 3).trans rfl⟩ (fun hHeld => ?_)
    clear hK K
    refine norm_ (a' := ?_) ?_ ?_
    rotate_left
    ·show Act.put _ (some 18) _ = _
     simp only [Act.put, List.setIfInBounds_toArray, List.set_cons_zero, List.set_cons_succ, i64_w, i32_w]
     rfl
    refine pure_ (i := 7) (N := some 19) (v := ?_) (a' := ?_) #[true, true, true, true, true, true, true, true, true, false] rfl rfl (any_of HT_.out (by kernel_rfl)) (fun _ _ _ h => h) (Or.inl ⟨by rfl, ?_⟩) ?_ ?_
    rotate_left
    ·intro w'
     go_simp
     with_reducible rfl
    rotate_left
    ·simp only [Act.put, List.setIfInBounds_toArray, List.set_cons_zero, List.set_cons_succ, i64_w, i32_w]
     rfl
    exact norm_ (by simp only [putAll, Act.put, List.setIfInBounds_toArray, List.set_cons_zero, List.set_cons_succ]) (hCont (.slice Ao16 t423.length co16, gb426) _ ⟨hHeld, (by (with_reducible repeat (first | apply Kd.R_alloc | apply Kd.R_drewN | apply Kd.R_drew)); exact HO425.out), (by (with_reducible repeat (first | refine blk_drewN ?_ _ | refine blk_drew ?_ | refine blk_alloc ?_ _)); exact BK421.out), (by (with_reducible repeat (first | refine blk_drewN ?_ _ | refine blk_drew ?_ | refine blk_alloc ?_ _)); exact BK422.out), (by (with_reducible repeat (first | refine blk_drewN ?_ _ | refine blk_drew ?_ | refine blk_alloc ?_ _)); exact BK426.out), GW426.out, GE426.out, NB421_426.out, NB426_421.out, NB422_426.out, NB426_422.out, (by repeat (first | (with_reducible first | exact HB.out | apply below_alloc | apply pw_below_drewN | apply below_drew1 | refine below_set ?_ GE421.out | refine below_set ?_ GE422.out | refine below_set ?_ GE426.out) | exact HB.out))⟩)
  rintro ⟨v424, gb426⟩ w17 ⟨hS_, h0_, h1_, h2_, h3_, h4_, h5_, h6_, h7_, h8_, h9_, h10_⟩
  have n0_ : Aside0 (Kd.R Kd.bool 4 w17 w.heap.size (fun _ => True) v424 t423) := ⟨h0_⟩
  have n1_ : Aside0 (w17.heap[gb421]? = some (.cells #[.int .i64 a0_0, .int .i64 a0_1, .slice A0_2 l0_2.length c0_2, .slice A0_3 l0_3.length c0_3] 74 (0, 0))) := ⟨h1_⟩
  have n2_ : Aside0 (w17.heap[gb422]? = some (.cells #[.int .i64 0, .int .i64 0, .slice none 0 0, .slice none 0 0] 28 (0, 0))) := ⟨h2_⟩
  have n3_ : Aside0 (w17.heap[gb426]? = some (.cells #[.int .i64 0, .int .i64 0, .slice none 0 0, .slice none 0 0] 28 (0, 0))) := ⟨h3_⟩
  have n4_ : Aside0 (w.heap.size ≤ gb426) := ⟨h4_⟩
  have n5_ : Aside0 (w.heap.size ≤ gb426) := ⟨h5_⟩
  have n6_ : Aside0 (gb421 ≠ gb426) := ⟨h6_⟩
  have n7_ : Aside0 (gb426 ≠ gb421) := ⟨h7_⟩
  have n8_ : Aside0 (gb422 ≠ gb426) := ⟨h8_⟩
  have n9_ : Aside0 (gb426 ≠ gb422) := ⟨h9_⟩
  have n10_ : Aside0 (Below w.heap.size w w17) := ⟨h10_⟩
  clear BK421
  clear BK422
  clear HB
  clear h0_ h1_ h2_ h3_ h4_ h5_ h6_ h7_ h8_ h9_ h10_
  have HO425 := n0_
  have BK421 := n1_
  have BK422 := n2_
  have BK426 := n3_
  have GW426 := n4_
  have GE426 := n5_
  have NB421_426 := n6_
  have NB426_421 := n7_
  have NB422_426 := n8_
  have NB426_422 := n9_
  have HB := n10_
  clear n0_ n1_ n2_ n3_ n4_ n5_ n6_ n7_ n8_ n9_ n10_
  have hHeld : w17.cell? ⟨gb421, 0, none⟩ = some (.int .i64 a0_0) ∧ w17.cell? ⟨gb421, 1, none⟩ = some (.int .i64 a0_1) ∧ w17.cell? ⟨gb421, 2, none⟩ = some (.slice A0_2 l0_2.length c0_2) ∧ w17.cell? ⟨gb421, 3, none⟩ = some (.slice A0_3 l0_3.length c0_3) := hS_
  obtain ⟨Ao18, co18, eo18⟩ := Kd.R_slice HO425.out
  (first | subst eo18 | (injection eo18 with f1_ f2_ f3_; have f4_ := f1_.symm; have f5_ := f3_.symm; clear f1_ f2_ f3_; subst f4_; subst f5_))
  refine norm_ (a' := ?_) ?_ ?_
  rotate_left
  ·simp only [putAll, Act.put, List.setIfInBounds_toArray, List.set_cons_zero, List.set_cons_succ]
   rfl
  refine one_ (i := 9) (N := none) #[true, true, true, true, true, true, true, true, true, true] rfl rfl (one_of HT_.out (by kernel_rfl)) (by decide) (fun K hK => ?_)
  have hs19 : w17.cell? ⟨gb426, 0, none⟩ = some (.int .i64 0) := (blk_cell BK426.out 0).trans rfl
  have hfs19 := blk_frozen BK426.out 0
  have hns19_0 := NB421_426.out
  have hns19_1 := NB422_426.out
  have hms19_0 := NB426_421.out
  have hms19_1 := NB426_422.out
  have hs20 : w17.cell? ⟨gb426, 1, none⟩ = some (.int .i64 0) := (blk_cell BK426.out 1).trans rfl
  have hfs20 := blk_frozen BK426.out 1
  have hns20_0 := NB421_426.out
  have hns20_1 := NB422_426.out
  have hms20_0 := NB426_421.out
  have hms20_1 := NB426_422.out
  have hs21 : w17.cell? ⟨gb426, 2, none⟩ = some (.slice none 0 0) := (blk_cell BK426.out 2).trans rfl
  have hfs21 := blk_frozen BK426.out 2
  have hns21_0 := NB421_426.out
  have hns21_1 := NB422_426.out
  have hms21_0 := NB426_421.out
  have hms21_1 := NB426_422.out
  have hs22 : w17.cell? ⟨gb426, 3, none⟩ = some (.slice none 0 0) := (blk_cell BK426.out 3).trans rfl
  have hfs22 := blk_frozen BK426.out 3
  have hns22_0 := NB421_426.out
  have hns22_1 := NB422_426.out
  have hms22_0 := NB426_421.out
  have hms22_1 := NB426_422.out
  refine skip_ (w1 := ?_) (by rfl) rfl ?_ ?_
  rotate_left
  ·go_simp
   rfl
  refine hK.out _ _ ⟨((cell_far (p := ⟨gb426, _, none⟩) NB421_426.out _).trans (((cell_far (p := ⟨gb426, _, none⟩) NB421_426.out _).trans (((cell_far (p := ⟨gb426, _, none⟩) NB421_426.out _).trans (((cell_far (p := ⟨gb426, _, none⟩) NB421_426.out _).trans (hHeld.1)))))))), ((cell_far (p := ⟨gb426, _, none⟩) NB421_426.out _).trans (((cell_far (p := ⟨gb426, _, none⟩) NB421_426.out _).trans (((cell_far (p := ⟨gb426, _, none⟩) NB421_426.out _).trans (((cell_far (p := ⟨gb426, _, none⟩) NB421_426.out _).trans (hHeld.2.1)))))))), ((cell_far (p := ⟨gb426, _, none⟩) NB421_426.out _).trans (((cell_far (p := ⟨gb426, _, none⟩) NB421_426.out _).trans (((cell_far (p := ⟨gb426, _, none⟩) NB421_426.out _).trans (((cell_far (p := ⟨gb426, _, none⟩) NB421_426.out _).trans (hHeld.2.2.1)))))))), ((cell_far (p := ⟨gb426, _, none⟩) NB421_426.out _).trans (((cell_far (p := ⟨gb426, _, none⟩) NB421_426.out _).trans (((cell_far (p := ⟨gb426, _, none⟩) NB421_426.out _).trans (((cell_far (p := ⟨gb426, _, none⟩) NB421_426.out _).trans (hHeld.2.2.2))))))))⟩ (fun hHeld => ?_)
  clear hK K
  refine done_ (done_of HT_.out (by kernel_rfl)) ?_
  have hnb23 := NB421_426.out
  have hnc23 := NB426_421.out
  have hcz24_0 : w17.cell? ⟨gb421, 0, none⟩ = some (.int .i64 a0_0) := (blk_cell BK421.out 0).trans rfl
  have hcz24_1 : w17.cell? ⟨gb421, 1, none⟩ = some (.int .i64 a0_1) := (blk_cell BK421.out 1).trans rfl
  have hcz24_2 : w17.cell? ⟨gb421, 2, none⟩ = some (.slice A0_2 l0_2.length c0_2) := (blk_cell BK421.out 2).trans rfl
  have hcz24_3 : w17.cell? ⟨gb421, 3, none⟩ = some (.slice A0_3 l0_3.length c0_3) := (blk_cell BK421.out 3).trans rfl
  have hfz24_0 := blk_frozen BK421.out 0
  have hfz24_1 := blk_frozen BK421.out 1
  have hfz24_2 := blk_frozen BK421.out 2
  have hfz24_3 := blk_frozen BK421.out 3
  try go_wp2
  go_loopg [23] k (fun kq v23 w' => ∃ (x23_1 : Int) (x427003_1 : List (List Int)) (u427003 : Value), v23 = .int .i64 x23_1 ∧ Aside0 (impl_machine_relationOf.l0 kq l0_3 (l0_3.length : Int) x23_1 a0_0 a0_1 t423 x427003_1 = some (r1, r2, r3, r4, r5)) ∧ Aside0 (kq ≤ k) ∧ Aside0 (Kd.R Kd.bool 4 w' w.heap.size (fun _ => True) (.slice Ao18 t423.length co18) t423) ∧ Aside0 (Kd.S (Kd.slice 2 (Kd.int .i64)) 55 w' w.heap.size (fun _ => True) u427003 x427003_1) ∧ Aside0 (w'.heap[gb421]? = some (.cells #[.int .i64 a0_0, .int .i64 a0_1, (.slice A0_2 l0_2.length c0_2), (.slice A0_3 l0_3.length c0_3)] 74 (0, 0))) ∧ Aside0 (w'.heap[gb422]? = some (.cells #[.int .i64 0, .int .i64 0, (.slice none 0 0), (.slice none 0 0)] 28 (0, 0))) ∧ Aside0 (w'.heap[gb426]? = some (.cells #[.int .i64 a0_0, .int .i64 a0_1, (.slice Ao18 t423.length co18), u427003] 28 (0, 0))) ∧ Aside0 (Below w.heap.size w w'))
  case atStart => exact ⟨(0), (([] : List (List Int))), (.slice none 0 0), (by first | rfl | (simp; done) | (simp [*]; done)), H', ⟨Nat.le_refl _⟩, ⟨by (with_reducible repeat (first | apply Kd.R_alloc | apply Kd.R_drewN | apply Kd.R_drew)); exact Kd.R_mono (Kd.R_far (p := ⟨gb426, 3, none⟩) (Kd.R_far (p := ⟨gb426, 2, none⟩) (Kd.R_far (p := ⟨gb426, 1, none⟩) (Kd.R_far (p := ⟨gb426, 0, none⟩) (Kd.R_types HO425.out BK426.out (by decide)) (fun _ hk => hk.2) (.int .i64 a0_0)) (fun _ hk => hk.2) (.int .i64 a0_1)) (fun _ hk => hk.2) (.slice Ao18 t423.length co18)) (fun _ hk => hk.2) (.slice none 0 0)) (fun _ hk => trivial)⟩, ⟨by first | exact Kd.S_nil _ _ _ _ _ | exact Kd.N_nil _ _ _ _ _ | exact Kd.V_nil _ _ _ _ _ | exact Kd.Q_nil _ _ _ _ _ | exact Kd.R_nil _ _ _ _ _⟩, ⟨by (with_reducible repeat (first | refine blk_drewN ?_ _ | refine blk_drew ?_ | refine blk_alloc ?_ _)); refine blk_far ?_ NB421_426.out _; (with_reducible repeat (first | refine blk_drewN ?_ _ | refine blk_drew ?_ | refine blk_alloc ?_ _)); refine blk_far ?_ NB421_426.out _; (with_reducible repeat (first | refine blk_drewN ?_ _ | refine blk_drew ?_ | refine blk_alloc ?_ _)); refine blk_far ?_ NB421_426.out _; (with_reducible repeat (first | refine blk_drewN ?_ _ | refine blk_drew ?_ | refine blk_alloc ?_ _)); refine blk_far ?_ NB421_426.out _; (with_reducible repeat (first | refine blk_drewN ?_ _ | refine blk_drew ?_ | refine blk_alloc ?_ _)); exact BK421.out⟩, ⟨by (with_reducible repeat (first | refine blk_drewN ?_ _ | refine blk_drew ?_ | refine blk_alloc ?_ _)); refine blk_far ?_ NB422_426.out _; (with_reducible repeat (first | refine blk_drewN ?_ _ | refine blk_drew ?_ | refine blk_alloc ?_ _)); refine blk_far ?_ NB422_426.out _; (with_reducible repeat (first | refine blk_drewN ?_ _ | refine blk_drew ?_ | refine blk_alloc ?_ _)); refine blk_far ?_ NB422_426.out _; (with_reducible repeat (first | refine blk_drewN ?_ _ | refine blk_drew ?_ | refine blk_alloc ?_ _)); refine blk_far ?_ NB422_426.out _; (with_reducible repeat (first | refine blk_drewN ?_ _ | refine blk_drew ?_ | refine blk_alloc ?_ _)); exact BK422.out⟩, ⟨by (with_reducible repeat (first | refine blk_drewN ?_ _ | refine blk_drew ?_ | refine blk_alloc ?_ _)); refine blk_put (cs := #[.int .i64 a0_0, .int .i64 a0_1, .slice Ao18 t423.length co18, .slice none 0 0]) ?_ 3 _ rfl; (with_reducible repeat (first | refine blk_drewN ?_ _ | refine blk_drew ?_ | refine blk_alloc ?_ _)); refine blk_put (cs := #[.int .i64 a0_0, .int .i64 a0_1, .slice none 0 0, .slice none 0 0]) ?_ 2 _ rfl; (with_reducible repeat (first | refine blk_drewN ?_ _ | refine blk_drew ?_ | refine blk_alloc ?_ _)); refine blk_put (cs := #[.int .i64 a0_0, .int .i64 0, .slice none 0 0, .slice none 0 0]) ?_ 1 _ rfl; (with_reducible repeat (first | refine blk_drewN ?_ _ | refine blk_drew ?_ | refine blk_alloc ?_ _)); refine blk_put (cs := #[.int .i64 0, .int .i64 0, .slice none 0 0, .slice none 0 0]) ?_ 0 _ rfl; (with_reducible repeat (first | refine blk_drewN ?_ _ | refine blk_drew ?_ | refine blk_alloc ?_ _)); exact BK426.out⟩, ⟨by repeat (first | (with_reducible first | exact HB.out | apply below_alloc | apply pw_below_drewN | apply below_drew1 | refine below_set ?_ GE421.out | refine below_set ?_ GE422.out | refine below_set ?_ GE426.out) | exact HB.out)⟩⟩
  case round =>
   clear H'
   try clear c1
   try clear c2
   try clear c2b0
   try clear c2b1
   try clear p2
   try clear c5
   try clear c11
   try clear c12
   try clear c23
   try clear hcz12_0
   try clear hcz12_1
   try clear hcz12_2
   try clear hcz12_3
   try clear hcz24_0
   try clear hcz24_1
   try clear hcz24_2
   try clear hcz24_3
   try clear hcz6_0
   try clear hcz6_1
   try clear hcz6_2
   try clear hcz6_3
   try clear hcz7_0
   try clear hcz7_1
   try clear hcz7_2
   try clear hcz7_3
   try clear hfz12_0
   try clear hfz12_1
   try clear hfz12_2
   try clear hfz12_3
   try clear hfz24_0
   try clear hfz24_1
   try clear hfz24_2
   try clear hfz24_3
   try clear hfz6_0
   try clear hfz6_1
   try clear hfz6_2
   try clear hfz6_3
   try clear hfz7_0
   try clear hfz7_1
   try clear hfz7_2
   try clear hfz7_3
   obtain ⟨x23_1, x427003_1, u427003, rfl, HA, HK1, HO_427002, HO_427003, BK421, BK422, BK426, HB⟩ := hrel
   cases gk with
   | zero => exact absurd HA.out (by simp [impl_machine_relationOf.l0])
   | succ k1 =>
    have H := HA.out
    clear HA
    simp only [impl_machine_relationOf.l0] at H
    by_cases c25 : x23_1 < (l0_3.length : Int)
    ·rw [if_pos c25] at H
     have c25b0 : decide (x23_1 < (l0_3.length : Int)) = true := decide_eq_true c25
     clear c25
     by_cases c26 : 0 ≤ x23_1
     ·rw [if_pos c26] at H
      have c26b0 : decide (0 ≤ x23_1) = true := decide_eq_true c26
      clear c26
      by_cases c27 : x23_1 < (l0_3.length : Int)
      ·rw [if_pos c27] at H
       have c27b0 : decide (x23_1 < (l0_3.length : Int)) = true := decide_eq_true c27
       clear c27
       replace H := Option.bind_eq_some_iff.mp H
       obtain ⟨t428, A280, H⟩ := H
       replace H : (if x427003_1.length < 5864062014805 then (impl_machine_relationOf.l0 k1 l0_3 (l0_3.length : Int) (wrap64 (x23_1 + 1)) a0_0 a0_1 t423 (x427003_1 ++ [t428])) else (none)) = some (r1, r2, r3, r4, r5) := H
       have A28 := Aside0.mk A280
       clear A280
       by_cases c29 : x427003_1.length < 5864062014805
       ·rw [if_pos c29] at H
        have LMc29 := Aside0.mk c29
        clear c29
        obtain ⟨y431, hy431⟩ : ∃ y_ : List (List Int), y_ = (x427003_1 ++ [t428]) := ⟨_, rfl⟩
        replace H : (impl_machine_relationOf.l0 k1 l0_3 (l0_3.length : Int) (wrap64 (x23_1 + 1)) a0_0 a0_1 t423 y431) = some (r1, r2, r3, r4, r5) := by first | (rw [hy431]; with_reducible exact H) | (have H2_ := (Option.bind_some _ _).symm.trans H; rw [hy431]; with_reducible exact H2_) | (have H2_ := (Option.bind_some _ _).symm.trans H; with_reducible exact H2_) | with_reducible exact H | (rw [hy431]; exact H) | exact H
        have Ny431 := Aside0.mk hy431
        clear hy431
        have H' := Aside0.mk H
        clear H
        have p427 : 0 ≤ (x23_1 : Int) := of_decide_eq_true (by first | (with_reducible assumption) | assumption)
        have q427 : x23_1 < (l0_3.length : Int) := of_decide_eq_true (by first | (with_reducible assumption) | assumption)
        obtain ⟨ad427, A427_0, c427_0, e427, hx427_0, hl427_0, hi427_0⟩ := at_L7 HR0_3.out x23_1 p427 q427
        cases e427
        replace hx427_0 := (HB.out.cell (World.block_lt_of_cell? w _ hx427_0)).trans hx427_0
        have HR427_0 := Aside0.mk hi427_0
        have HC427_0 := Aside0.mk hl427_0
        clear hi427_0 hl427_0
        replace p427 := eq_true p427
        replace q427 := eq_true q427
        try go_wp2
        have n0_ := Aside0.mk (Kd.R_drew HO_427002.out)
        have n1_ := Aside0.mk (Kd.S_drew HO_427003.out)
        have n2_ := Aside0.mk (blk_drew BK421.out)
        have n3_ := Aside0.mk (blk_drew BK422.out)
        have n4_ := Aside0.mk (blk_drew BK426.out)
        have n5_ := Aside0.mk (below_drew1 HB.out)
        clear HO_427002
        clear HO_427003
        clear BK421
        clear BK422
        clear BK426
        clear HB
        have HO_427002 := n0_
        have HO_427003 := n1_
        have BK421 := n2_
        have BK422 := n3_
        have BK426 := n4_
        have HB := n5_
        clear n0_ n1_ n2_ n3_ n4_ n5_
        refine start_ (n := 8) (S := fun w' => w'.cell? ⟨gb426, 0, none⟩ = some (.int .i64 a0_0) ∧ w'.cell? ⟨gb426, 1, none⟩ = some (.int .i64 a0_1) ∧ w'.cell? ⟨gb426, 2, none⟩ = some (.slice Ao18 t423.length co18) ∧ w'.cell? ⟨gb426, 3, none⟩ = some (u427003)) (ds := [7]) #[false, false, false, false, false, false, false, false] (by kernel_rfl) rfl rfl ⟨(blk_cell BK426.out 0).trans rfl, (blk_cell BK426.out 1).trans rfl, (blk_cell BK426.out 2).trans rfl, (blk_cell BK426.out 3).trans rfl⟩ (fun hHeld => ?_); refine with_tabW impl_machine_relationOf.tab7 impl_machine_relationOf.bits7 (fun HT_ HW_ => ?_)
        generalize wr.drew = w30 at HO_427002 HO_427003 BK421 BK422 BK426 HB hHeld ⊢
        refine pure_ (i := 0) (N := some 27) (v := ?_) (a' := ?_) #[true, false, false, false, false, false, false, false] rfl rfl (any_of HT_.out (by kernel_rfl)) (fun _ _ _ h => h) (Or.inl ⟨by rfl, ?_⟩) ?_ ?_
        rotate_left
        ·intro w'
         go_simp
         with_reducible rfl
        rotate_left
        ·simp only [Act.put, List.setIfInBounds_toArray, List.set_cons_zero, List.set_cons_succ, i64_w, i32_w]
         rfl
        refine pure_ (i := 2) (N := some 29) (v := ?_) (a' := ?_) #[true, false, true, false, false, false, false, false] rfl rfl (any_of HT_.out (by kernel_rfl)) (fun _ _ _ h => h) (Or.inl ⟨by rfl, ?_⟩) ?_ ?_
        rotate_left
        ·intro w'
         go_simp
         with_reducible rfl
        rotate_left
        ·simp only [Act.put, List.setIfInBounds_toArray, List.set_cons_zero, List.set_cons_succ, i64_w, i32_w]
         rfl
        refine take_ (i := 1) (N := some 28) (v := ?_) (a' := ?_) #[true, true, true, false, false, false, false, false] rfl rfl (take_ofW HT_.out HW_.out (by kernel_rfl)) (fun _ _ _ h => h) (Or.inl ⟨by rfl, ?_⟩) hHeld ?_ ?_
        rotate_left
        ·rintro w' ⟨s0, s1, s2, s3⟩
         go_simp
         with_reducible rfl
        rotate_left
        ·simp only [Act.put, List.setIfInBounds_toArray, List.set_cons_zero, List.set_cons_succ, i64_w, i32_w]
         rfl
        refine one_ (i := 3) (N := some 30) #[true, true, true, true, false, false, false, false] rfl rfl (one_of HT_.out (by kernel_rfl)) (by decide) (fun K hK => ?_)
        refine goes_ Tryd.func149 (by kernel_rfl) rfl #[.slice A427_0 (rd_L7 l0_3 x23_1).length c427_0] (by rfl) rfl rfl (by (try simp only [List.map_toArray, List.map_cons, List.map_nil]); first | done | rfl | (simp only [List.length_drop, List.length_take]; rfl)) ?_
        with_reducible refine (impl_asLongs.calls k1 _ _ (rd_L7 l0_3 x23_1) t428 _ ?side1 ?side2 A28.out).mono ?_
        (case side1 => repeat (first | exact (Kd.C_below HR427_0.out HB.out) | (with_reducible refine Kd.C_alloc ?_ _) | (with_reducible refine Kd.C_drewN ?_ _) | (with_reducible refine Kd.C_drew ?_)))
        (case side2 => exact HC427_0.out)
        rintro e w31 ⟨v429, rfl, ho0, hb⟩
        refine ⟨_, rfl, ?_⟩
        have n0_ := Aside0.mk (Kd.R_below (by (with_reducible repeat (first | apply Kd.R_alloc | apply Kd.R_drewN | apply Kd.R_drew)); exact HO_427002.out) hb)
        have n1_ := Aside0.mk (Kd.S_elder' (by (with_reducible repeat (first | apply Kd.S_alloc | apply Kd.S_drewN | apply Kd.S_drew)); exact HO_427003.out) (Kd.R_base ho0) hb)
        have n2_ := Aside0.mk (Kd.R_lower ho0 (below_size (by repeat (first | (with_reducible first | exact HB.out | apply below_alloc | apply pw_below_drewN | apply below_drew1 | refine below_set ?_ GE421.out | refine below_set ?_ GE422.out | refine below_set ?_ GE426.out) | exact HB.out))))
        have n3_ := Aside0.mk (blk_below (g := gb421) (o := .cells #[.int .i64 a0_0, .int .i64 a0_1, .slice A0_2 l0_2.length c0_2, .slice (some ad427) l0_3.length c0_3] 74 (0, 0)) (by (with_reducible repeat (first | refine blk_drewN ?_ _ | refine blk_drew ?_ | refine blk_alloc ?_ _)); exact BK421.out) hb)
        have n4_ := Aside0.mk (blk_below (g := gb422) (o := .cells #[.int .i64 0, .int .i64 0, .slice none 0 0, .slice none 0 0] 28 (0, 0)) (by (with_reducible repeat (first | refine blk_drewN ?_ _ | refine blk_drew ?_ | refine blk_alloc ?_ _)); exact BK422.out) hb)
        have n5_ := Aside0.mk (blk_below (g := gb426) (o := .cells #[.int .i64 a0_0, .int .i64 a0_1, .slice Ao18 t423.length co18, u427003] 28 (0, 0)) (by (with_reducible repeat (first | refine blk_drewN ?_ _ | refine blk_drew ?_ | refine blk_alloc ?_ _)); exact BK426.out) hb)
        have n6_ := Aside0.mk (below_step (by repeat (first | (with_reducible first | exact HB.out | apply below_alloc | apply pw_below_drewN | apply below_drew1 | refine below_set ?_ GE421.out | refine below_set ?_ GE422.out | refine below_set ?_ GE426.out) | exact HB.out)) hb)
        clear HO_427002
        clear HO_427003
        clear BK421
        clear BK422
        clear BK426
        clear HB
        have HO_427002 := n0_
        have HO_427003 := n1_
        have HO430 := n2_
        have BK421 := n3_
        have BK422 := n4_
        have BK426 := n5_
        have HB := n6_
        clear n0_ n1_ n2_ n3_ n4_ n5_ n6_
        (try clear hb)
        (try clear hb2)
        (try clear hk)
        (try clear hi)
        (try clear ho0)
        obtain ⟨Ao33, co33, eo33⟩ := Kd.R_slice HO430.out
        (first | subst eo33 | (injection eo33 with f1_ f2_ f3_; have f4_ := f1_.symm; have f5_ := f3_.symm; clear f1_ f2_ f3_; subst f4_; subst f5_))
        refine hK.out _ _ ⟨(blk_cell BK426.out 0).trans rfl, (blk_cell BK426.out 1).trans rfl, (blk_cell BK426.out 2).trans rfl, (blk_cell BK426.out 3).trans rfl⟩ (fun hHeld => ?_)
        clear hK K
        refine norm_ (a' := ?_) ?_ ?_
        rotate_left
        ·show Act.put _ (some 30) _ = _
         simp only [Act.put, List.setIfInBounds_toArray, List.set_cons_zero, List.set_cons_succ, i64_w, i32_w]
         rfl
        refine one_ (i := 4) (N := some 31) #[true, true, true, true, true, false, false, false] rfl rfl (one_of HT_.out (by kernel_rfl)) (by decide) (fun K hK => ?_)
        refine value_ (w1 := ?_) (v := ?_) (by rfl) rfl ?_ ?_
        rotate_left 2
        ·go_simp
         constructor
         ·rfl
         ·rfl
        refine hK.out _ _ ⟨(blk_cell (blk_alloc BK426.out _) 0).trans rfl, (blk_cell (blk_alloc BK426.out _) 1).trans rfl, (blk_cell (blk_alloc BK426.out _) 2).trans rfl, (blk_cell (blk_alloc BK426.out _) 3).trans rfl⟩ (fun hHeld => ?_)
        clear hK K
        refine norm_ (a' := ?_) ?_ ?_
        rotate_left
        ·show Act.put _ (some 31) _ = _
         simp only [Act.put, List.setIfInBounds_toArray, List.set_cons_zero, List.set_cons_succ, i64_w, i32_w]
         rfl
        refine one_ (i := 5) (N := some 32) #[true, true, true, true, true, true, false, false] rfl rfl (one_of HT_.out (by kernel_rfl)) (by decide) (fun K hK => ?_)
        refine Kd.S_append_step (Kd.slice 2 (Kd.int .i64)) (w0 := w) w.heap.size (by rfl) (.tmp 28) (.tmp 31) 23 55 (.slice none 0 0) 24 rfl Tryd.underlying23 info55 rfl (by decide) (by omega) u427003 x427003_1 t428 [.slice Ao33 t428.length co33] (fun _ => True) (fun k_ => some k_ = (.slice Ao33 t428.length co33 : Value).ownBlock) rfl rfl ?aP (fun k_ hk_ => ((Kd.R_mono (ok' := fun k_ => ((fun _ => True)) k_ ∧ some k_ ≠ (u427003 : Value).ownBlock) (Kd.R_apart' (HO430.out) (Kd.S_typed HO_427003.out) (by decide)) (fun k_ hk => ⟨trivial, hk.2⟩))).1 k_ hk_.symm) ?aF ?aO ?aB ?aS ?aL ?_
        (case aP => exact Kd.M_row (Kd.R_mono (Kd.R_tight rfl (Kd.R_mono (ok' := fun k_ => ((fun _ => True)) k_ ∧ some k_ ≠ (u427003 : Value).ownBlock) (Kd.R_apart' (HO430.out) (Kd.S_typed HO_427003.out) (by decide)) (fun k_ hk => ⟨trivial, hk.2⟩))) (fun _ h_ => h_)))
        (case aB => exact (by repeat (first | (with_reducible first | exact HB.out | apply below_alloc | apply pw_below_drewN | apply below_drew1 | refine below_set ?_ GE421.out | refine below_set ?_ GE422.out | refine below_set ?_ GE426.out) | exact HB.out)))
        (case aF => exact (fun _ _ => trivial))
        (case aO => exact (by (with_reducible repeat (first | apply Kd.S_alloc | apply Kd.S_drewN | apply Kd.S_drew)); exact Kd.S_mono HO_427003.out (fun k_ hk => ⟨trivial, fun e_ => hk.2 e_⟩)))
        (case aS => exact (below_size (by repeat (first | (with_reducible first | exact HB.out | apply below_alloc | apply pw_below_drewN | apply below_drew1 | refine below_set ?_ GE421.out | refine below_set ?_ GE422.out | refine below_set ?_ GE426.out) | exact HB.out))))
        (case aL => have := LMc29.out; omega)
        intro v432 w32 ho hb hg hat
        rw [← Ny431.out] at ho
        have n0_ := Aside0.mk (Kd.R_over' (by (with_reducible repeat (first | apply Kd.R_alloc | apply Kd.R_drewN | apply Kd.R_drew)); exact HO_427002.out) (Kd.S_typed (by (with_reducible repeat (first | apply Kd.S_alloc | apply Kd.S_drewN | apply Kd.S_drew)); exact HO_427003.out)) (by decide) hg)
        have n1_ := Aside0.mk (blk_grown (g := gb421) (o := .cells #[.int .i64 a0_0, .int .i64 a0_1, .slice A0_2 l0_2.length c0_2, .slice (some ad427) l0_3.length c0_3] 74 (0, 0)) (by (with_reducible repeat (first | refine blk_drewN ?_ _ | refine blk_drew ?_ | refine blk_alloc ?_ _)); exact BK421.out) hg (Kd.S_ne HO_427003.out BK421.out (by decide)))
        have n2_ := Aside0.mk (blk_grown (g := gb422) (o := .cells #[.int .i64 0, .int .i64 0, .slice none 0 0, .slice none 0 0] 28 (0, 0)) (by (with_reducible repeat (first | refine blk_drewN ?_ _ | refine blk_drew ?_ | refine blk_alloc ?_ _)); exact BK422.out) hg (Kd.S_ne HO_427003.out BK422.out (by decide)))
        have n3_ := Aside0.mk (blk_grown (g := gb426) (o := .cells #[.int .i64 a0_0, .int .i64 a0_1, .slice Ao18 t423.length co18, u427003] 28 (0, 0)) (by (with_reducible repeat (first | refine blk_drewN ?_ _ | refine blk_drew ?_ | refine blk_alloc ?_ _)); exact BK426.out) hg (Kd.S_ne HO_427003.out BK426.out (by decide)))
        have n4_ := Aside0.mk (hb)
        have n5_ := Aside0.mk (ho)
        clear HO_427002
        clear BK421
        clear BK422
        clear BK426
        clear HB
        clear HO_427003
        clear HO430
        have HO_427002 := n0_
        have BK421 := n1_
        have BK422 := n2_
        have BK426 := n3_
        have HB := n4_
        have HO433 := n5_
        clear n0_ n1_ n2_ n3_ n4_ n5_
        clear ho hb hg hat
        obtain ⟨Ao34, co34, eo34⟩ := Kd.S_slice HO433.out
        (first | subst eo34 | (injection eo34 with f1_ f2_ f3_; have f4_ := f1_.symm; have f5_ := f3_.symm; clear f1_ f2_ f3_; subst f4_; subst f5_))
        refine hK.out _ _ ⟨(blk_cell BK426.out 0).trans rfl, (blk_cell BK426.out 1).trans rfl, (blk_cell BK426.out 2).trans rfl, (blk_cell BK426.out 3).trans rfl⟩ (fun hHeld => ?_)
        clear hK K
        refine norm_ (a' := ?_) ?_ ?_
        rotate_left
        ·show Act.put _ (some 32) _ = _
         simp only [Act.put, List.setIfInBounds_toArray, List.set_cons_zero, List.set_cons_succ, i64_w, i32_w]
         rfl
        refine pure_ (i := 6) (N := some 33) (v := ?_) (a' := ?_) #[true, true, true, true, true, true, true, false] rfl rfl (any_of HT_.out (by kernel_rfl)) (fun _ _ _ h => h) (Or.inl ⟨by rfl, ?_⟩) ?_ ?_
        rotate_left
        ·intro w'
         go_simp
         with_reducible rfl
        rotate_left
        ·simp only [Act.put, List.setIfInBounds_toArray, List.set_cons_zero, List.set_cons_succ, i64_w, i32_w]
         rfl
        refine last_ (i := 7) (N := none) #[true, true, true, true, true, true, true, true] rfl rfl (one_of HT_.out (by kernel_rfl)) (by decide) (fun K hK => ?_)
        have hs35 : w32.cell? ⟨gb426, 3, none⟩ = some (u427003) := (blk_cell BK426.out 3).trans rfl
        have hfs35 := blk_frozen BK426.out 3
        have hns35_0 := NB421_426.out
        have hns35_1 := NB422_426.out
        have hms35_0 := NB426_421.out
        have hms35_1 := NB426_422.out
        refine skip_ (w1 := ?_) (by rfl) rfl ?_ ?_
        rotate_left
        ·go_simp
         rfl
        refine hK.out _ _ ?_
        clear hK K
        refine done_ (done_of HT_.out (by kernel_rfl)) ?_
        try go_wp2
        go_roundg k1
        case measure => have := HK1.out; omega
        case rel => exact ⟨(wrap64 (x23_1 + 1)), (y431), (.slice Ao34 y431.length co34), (by first | rfl | (simp; done) | (simp [*]; done)), H', ⟨by have := HK1.out; omega⟩, ⟨by (with_reducible repeat (first | apply Kd.R_alloc | apply Kd.R_drewN | apply Kd.R_drew)); exact Kd.R_mono (Kd.R_far (p := ⟨gb426, 3, none⟩) (Kd.R_types HO_427002.out BK426.out (by decide)) (fun _ hk => hk.2) (.slice Ao34 y431.length co34)) (fun _ hk => trivial)⟩, ⟨by (with_reducible repeat (first | apply Kd.S_alloc | apply Kd.S_drewN | apply Kd.S_drew)); exact Kd.S_mono (Kd.S_far (p := ⟨gb426, 3, none⟩) (Kd.S_types HO433.out BK426.out (by decide)) (fun _ hk => hk.2) (.slice Ao34 y431.length co34)) (fun _ hk => trivial)⟩, ⟨by (with_reducible repeat (first | refine blk_drewN ?_ _ | refine blk_drew ?_ | refine blk_alloc ?_ _)); refine blk_far ?_ NB421_426.out _; (with_reducible repeat (first | refine blk_drewN ?_ _ | refine blk_drew ?_ | refine blk_alloc ?_ _)); exact BK421.out⟩, ⟨by (with_reducible repeat (first | refine blk_drewN ?_ _ | refine blk_drew ?_ | refine blk_alloc ?_ _)); refine blk_far ?_ NB422_426.out _; (with_reducible repeat (first | refine blk_drewN ?_ _ | refine blk_drew ?_ | refine blk_alloc ?_ _)); exact BK422.out⟩, ⟨by (with_reducible repeat (first | refine blk_drewN ?_ _ | refine blk_drew ?_ | refine blk_alloc ?_ _)); refine blk_put (cs := #[.int .i64 a0_0, .int .i64 a0_1, .slice Ao18 t423.length co18, u427003]) ?_ 3 _ rfl; (with_reducible repeat (first | refine blk_drewN ?_ _ | refine blk_drew ?_ | refine blk_alloc ?_ _)); exact BK426.out⟩, ⟨by repeat (first | (with_reducible first | exact HB.out | apply below_alloc | apply pw_below_drewN | apply below_drew1 | refine below_set ?_ GE421.out | refine below_set ?_ GE422.out | refine below_set ?_ GE426.out) | exact HB.out)⟩⟩
       ·rw [if_neg c29] at H
        exact absurd H (by simp)
      ·rw [if_neg c27] at H
       exact absurd H (by simp)
     ·rw [if_neg c26] at H
      exact absurd H (by simp)
    ·rw [if_neg c25] at H
     have c25b0 : decide (x23_1 < (l0_3.length : Int)) = false := decide_eq_false c25
     clear c25
     simp only [Option.some.injEq, Prod.mk.injEq] at H
     obtain ⟨rfl, rfl, rfl, rfl, rfl⟩ := H
     have hnb36 := NB426_421.out
     have hnc36 := NB421_426.out
     have hnb37 := NB426_422.out
     have hnc37 := NB422_426.out
     have hcz38_0 : wr.cell? ⟨gb426, 0, none⟩ = some (.int .i64 a0_0) := (blk_cell BK426.out 0).trans rfl
     have hcz38_1 : wr.cell? ⟨gb426, 1, none⟩ = some (.int .i64 a0_1) := (blk_cell BK426.out 1).trans rfl
     have hcz38_2 : wr.cell? ⟨gb426, 2, none⟩ = some (.slice Ao18 t423.length co18) := (blk_cell BK426.out 2).trans rfl
     have hcz38_3 : wr.cell? ⟨gb426, 3, none⟩ = some (u427003) := (blk_cell BK426.out 3).trans rfl
     have hfz38_0 := blk_frozen BK426.out 0
     have hfz38_1 := blk_frozen BK426.out 1
     have hfz38_2 := blk_frozen BK426.out 2
     have hfz38_3 := blk_frozen BK426.out 3
     have hnb39 := NB422_421.out
     have hnc39 := NB421_422.out
     have hcz40_0 : wr.cell? ⟨gb422, 0, none⟩ = some (.int .i64 0) := (blk_cell BK422.out 0).trans rfl
     have hcz40_1 : wr.cell? ⟨gb422, 1, none⟩ = some (.int .i64 0) := (blk_cell BK422.out 1).trans rfl
     have hcz40_2 : wr.cell? ⟨gb422, 2, none⟩ = some (.slice none 0 0) := (blk_cell BK422.out 2).trans rfl
     have hcz40_3 : wr.cell? ⟨gb422, 3, none⟩ = some (.slice none 0 0) := (blk_cell BK422.out 3).trans rfl
     have hfz40_0 := blk_frozen BK422.out 0
     have hfz40_1 := blk_frozen BK422.out 1
     have hfz40_2 := blk_frozen BK422.out 2
     have hfz40_3 := blk_frozen BK422.out 3
     obtain ⟨Ao41, co41, eo41⟩ := Kd.S_slice HO_427003.out
     subst eo41
     go_wp2
     refine bodyPost_ret (results_ct rfl _ _ gb422 28 #[.int .i64 a0_0, .int .i64 a0_1, .slice Ao18 t423.length co18, .slice Ao41 x427003_1.length co41] (0, 0) _ rfl (by (with_reducible repeat (first | refine blk_drewN ?_ _ | refine blk_drew ?_ | refine blk_alloc ?_ _)); refine blk_put (cs := #[.int .i64 a0_0, .int .i64 a0_1, .slice Ao18 t423.length co18, .slice none 0 0]) ?_ 3 _ rfl; (with_reducible repeat (first | refine blk_drewN ?_ _ | refine blk_drew ?_ | refine blk_alloc ?_ _)); refine blk_put (cs := #[.int .i64 a0_0, .int .i64 a0_1, .slice none 0 0, .slice none 0 0]) ?_ 2 _ rfl; (with_reducible repeat (first | refine blk_drewN ?_ _ | refine blk_drew ?_ | refine blk_alloc ?_ _)); refine blk_put (cs := #[.int .i64 a0_0, .int .i64 0, .slice none 0 0, .slice none 0 0]) ?_ 1 _ rfl; (with_reducible repeat (first | refine blk_drewN ?_ _ | refine blk_drew ?_ | refine blk_alloc ?_ _)); refine blk_put (cs := #[.int .i64 0, .int .i64 0, .slice none 0 0, .slice none 0 0]) ?_ 0 _ rfl; (with_reducible repeat (first | refine blk_drewN ?_ _ | refine blk_drew ?_ | refine blk_alloc ?_ _)); exact BK422.out) Tryd.underlying28 rfl (by kernel_rfl)) rfl ?_
     exact ⟨_, _, by first | rfl | (simp [errW_none, errW_some] <;> rfl) | (simp [*, errW_none, errW_some] <;> rfl), by (with_reducible repeat (first | apply Kd.R_alloc | apply Kd.R_drewN | apply Kd.R_drew)); exact Kd.R_mono (Kd.R_far (p := ⟨gb422, 3, none⟩) (Kd.R_far (p := ⟨gb422, 2, none⟩) (Kd.R_far (p := ⟨gb422, 1, none⟩) (Kd.R_far (p := ⟨gb422, 0, none⟩) (Kd.R_types HO_427002.out BK422.out (by decide)) (fun _ hk => hk.2) (.int .i64 a0_0)) (fun _ hk => hk.2) (.int .i64 a0_1)) (fun _ hk => hk.2) (.slice Ao18 t423.length co18)) (fun _ hk => hk.2) (.slice Ao41 x427003_1.length co41)) (fun _ hk => trivial), by (with_reducible repeat (first | apply Kd.S_alloc | apply Kd.S_drewN | apply Kd.S_drew)); exact Kd.S_mono (Kd.S_far (p := ⟨gb422, 3, none⟩) (Kd.S_far (p := ⟨gb422, 2, none⟩) (Kd.S_far (p := ⟨gb422, 1, none⟩) (Kd.S_far (p := ⟨gb422, 0, none⟩) (Kd.S_types HO_427003.out BK422.out (by decide)) (fun _ hk => hk.2) (.int .i64 a0_0)) (fun _ hk => hk.2) (.int .i64 a0_1)) (fun _ hk => hk.2) (.slice Ao18 t423.length co18)) (fun _ hk => hk.2) (.slice Ao41 x427003_1.length co41)) (fun _ hk => trivial), by repeat (first | (with_reducible first | exact HB.out | apply below_alloc | apply pw_below_drewN | apply below_drew1 | refine below_set ?_ GE421.out | refine below_set ?_ GE422.out | refine below_set ?_ GE426.out) | exact HB.out)⟩
end Go.Proofs.YtbkcllfgolmloaaDoor.X

-- Written by a program of this claim's author, out of the translation.
namespace Go.Proofs.YtbkcllfgolmloaaDoor.X
open Go.RowKit Go.Proofs.YtbkcllfgolmloaaDoorW.PrintWords Go.Proofs.YtbkcllfgolmloaaDoorW.PrintLast Go.Proofs.YtbkcllfgolmloaaDoorW.PrintMore
attribute [local go_sem] max2_int min2_int max_two min_two max_three min_three max_four min_four   -- for this text's walks alone
set_option linter.unusedVariables false
set_option linter.unusedSimpArgs false
def impl_machine_tidied.f (k : Nat) (a0_0 : Int) (a0_1 : Int) (l0_2 : List Bool) (l0_3 : List (List Int)) : Option (Int × Int × List Bool × (List (List Int)) × Int) := (impl_machine_tidy.f k a0_0 a0_1 l0_2 l0_3).bind fun bt436 => ((impl_machine_relationOf.f k bt436.1 bt436.2.1 bt436.2.2.1 bt436.2.2.2).bind fun bt444 => (some (bt444.1, bt444.2.1, bt444.2.2.1, bt444.2.2.2.1, bt444.2.2.2.2)))
set_option maxHeartbeats 8000000 in
set_option maxRecDepth 100000 in
theorem impl_machine_tidied.calls (k : Nat) (a0_0 : Int) (a0_1 : Int) (A0_2 : Option Addr) (c0_2 : Nat) (l0_2 : List Bool) (A0_3 : Option Addr) (c0_3 : Nat) (l0_3 : List (List Int)) (r1 : Int) (r2 : Int) (r3 : List Bool) (r4 : List (List Int)) (r5 : Int) (w : World) (htab : TabOK w) (hr0_2 : Kd.C Kd.bool w A0_2 l0_2.length l0_2) (hc0_2 : l0_2.length ≤ c0_2) (hr0_3 : Kd.C (Kd.slice 3 (Kd.int .i64)) w A0_3 l0_3.length l0_3) (hc0_3 : l0_3.length ≤ c0_3) (h : impl_machine_tidied.f k a0_0 a0_1 l0_2 l0_3 = some (r1, r2, r3, r4, r5)) :
  Calls Tryd.prog 88 #[.agg #[.int .i64 a0_0, .int .i64 a0_1, .slice A0_2 l0_2.length c0_2, .slice A0_3 l0_3.length c0_3]] w fun e w' => ∃ v2_ v3_ : Value, e = .returned (.tuple #[.agg #[.int .i64 r1, .int .i64 r2, v2_, v3_], .int .i64 r5]) ∧ Kd.R Kd.bool 4 w' w.heap.size (fun _ => True) v2_ r3 ∧ Kd.S (Kd.slice 2 (Kd.int .i64)) 55 w' w.heap.size (fun _ => True) v3_ r4 ∧ Below w.heap.size w w' := by
 have HTab := Aside0.mk htab
 clear htab
 have hu74 := Tryd.underlying74
 have hu28 := Tryd.underlying28
 have HR0_2 := Aside0.mk hr0_2
 have HC0_2 := Aside0.mk hc0_2
 clear hr0_2 hc0_2
 have HR0_3 := Aside0.mk hr0_3
 have HC0_3 := Aside0.mk hc0_3
 clear hr0_3 hc0_3
 have HB := Aside0.mk (Below.refl w.heap.size w)
 have H : ((impl_machine_tidy.f k a0_0 a0_1 l0_2 l0_3).bind fun bt436 => ((impl_machine_relationOf.f k bt436.1 bt436.2.1 bt436.2.2.1 bt436.2.2.2).bind fun bt444 => (some (bt444.1, bt444.2.1, bt444.2.2.1, bt444.2.2.2.1, bt444.2.2.2.2)))) = some (r1, r2, r3, r4, r5) := h
 clear h
 replace H := Option.bind_eq_some_iff.mp H
 obtain ⟨⟨t436, t437, t438, t441⟩, A20, H⟩ := H
 replace H : ((impl_machine_relationOf.f k t436 t437 t438 t441).bind fun bt444 => (some (bt444.1, bt444.2.1, bt444.2.2.1, bt444.2.2.2.1, bt444.2.2.2.2))) = some (r1, r2, r3, r4, r5) := H
 have A2 := Aside0.mk A20
 clear A20
 replace H := Option.bind_eq_some_iff.mp H
 obtain ⟨⟨t444, t445, t446, t449, t452⟩, A30, H⟩ := H
 replace H : (some (t444, t445, t446, t449, t452)) = some (r1, r2, r3, r4, r5) := H
 have A3 := Aside0.mk A30
 clear A30
 simp only [Option.some.injEq, Prod.mk.injEq] at H
 obtain ⟨rfl, rfl, rfl, rfl, rfl⟩ := H
 go_enter Tryd.func88, Tryd.ntmps88
 go_wp2_with (first | ((with_reducible refine gate_dst (N := 1) rfl ?_); refine box_event ?hg (N := 1) ?hd (cs := #[.int .i64 a0_0, .int .i64 a0_1, .slice A0_2 l0_2.length c0_2, .slice A0_3 l0_3.length c0_3]) (t := 74) ?hr ?_; (case hd => rfl); (case hg => rfl); (case hr => first | (go_simp; done) | (go_simp; rfl)); intro gb434 hg w4 hbox hb; have n0_ := Aside0.mk (below_step (by repeat (first | (with_reducible first | exact HB.out | apply below_alloc | apply pw_below_drewN | apply below_drew1) | exact HB.out)) hb); have n1_ := Aside0.mk (hbox); have n2_ := Aside0.mk ((by rw [hg]; exact (below_size (by repeat (first | (with_reducible first | exact HB.out | apply below_alloc | apply pw_below_drewN | apply below_drew1) | exact HB.out))) : w.heap.size ≤ gb434)); have n3_ := Aside0.mk ((by rw [hg]; exact (below_size (by repeat (first | (with_reducible first | exact HB.out | apply below_alloc | apply pw_below_drewN | apply below_drew1) | exact HB.out))) : w.heap.size ≤ gb434)); clear HB; have HB := n0_; have BK434 := n1_; have GW434 := n2_; have GE434 := n3_; clear n0_ n1_ n2_ n3_; clear hb hbox hg) | ((with_reducible refine gate_dst (N := 2) rfl ?_); refine box_event ?hg (N := 2) ?hd (cs := #[.int .i64 0, .int .i64 0, .slice none 0 0, .slice none 0 0]) (t := 28) ?hr ?_; (case hd => rfl); (case hg => rfl); (case hr => first | (go_simp; done) | (go_simp; rfl)); intro gb435 hg w5 hbox hb; have n0_ := Aside0.mk (blk_below (g := gb434) (o := .cells #[.int .i64 a0_0, .int .i64 a0_1, .slice A0_2 l0_2.length c0_2, .slice A0_3 l0_3.length c0_3] 74 (0, 0)) (by (with_reducible repeat (first | refine blk_drewN ?_ _ | refine blk_drew ?_ | refine blk_alloc ?_ _)); exact BK434.out) hb); have n1_ := Aside0.mk (below_step (by repeat (first | (with_reducible first | exact HB.out | apply below_alloc | apply pw_below_drewN | apply below_drew1 | refine below_set ?_ GE434.out) | exact HB.out)) hb); have n2_ := Aside0.mk (hbox); have n3_ := Aside0.mk ((by rw [hg]; exact (below_size (by repeat (first | (with_reducible first | exact HB.out | apply below_alloc | apply pw_below_drewN | apply below_drew1 | refine below_set ?_ GE434.out) | exact HB.out))) : w.heap.size ≤ gb435)); have n4_ := Aside0.mk ((by rw [hg]; exact (below_size (by repeat (first | (with_reducible first | exact HB.out | apply below_alloc | apply pw_below_drewN | apply below_drew1 | refine below_set ?_ GE434.out) | exact HB.out))) : w.heap.size ≤ gb435)); have n5_ := Aside0.mk ((by rw [hg]; exact Nat.ne_of_lt (blk_lt (g := gb434) (o := .cells #[.int .i64 a0_0, .int .i64 a0_1, .slice A0_2 l0_2.length c0_2, .slice A0_3 l0_3.length c0_3] 74 (0, 0)) (by (with_reducible repeat (first | refine blk_drewN ?_ _ | refine blk_drew ?_ | refine blk_alloc ?_ _)); exact BK434.out)) : gb434 ≠ gb435)); have n6_ := Aside0.mk ((by rw [hg]; exact Nat.ne_of_gt (blk_lt (g := gb434) (o := .cells #[.int .i64 a0_0, .int .i64 a0_1, .slice A0_2 l0_2.length c0_2, .slice A0_3 l0_3.length c0_3] 74 (0, 0)) (by (with_reducible repeat (first | refine blk_drewN ?_ _ | refine blk_drew ?_ | refine blk_alloc ?_ _)); exact BK434.out)) : gb435 ≠ gb434)); clear BK434; clear HB; have BK434 := n0_; have HB := n1_; have BK435 := n2_; have GW435 := n3_; have GE435 := n4_; have NB434_435 := n5_; have NB435_434 := n6_; clear n0_ n1_ n2_ n3_ n4_ n5_ n6_; clear hb hbox hg; have hnb6 := NB434_435.out; have hnc6 := NB435_434.out; have hcz7_0 : w5.cell? ⟨gb434, 0, none⟩ = some (.int .i64 a0_0) := (blk_cell BK434.out 0).trans rfl; have hcz7_1 : w5.cell? ⟨gb434, 1, none⟩ = some (.int .i64 a0_1) := (blk_cell BK434.out 1).trans rfl; have hcz7_2 : w5.cell? ⟨gb434, 2, none⟩ = some (.slice A0_2 l0_2.length c0_2) := (blk_cell BK434.out 2).trans rfl; have hcz7_3 : w5.cell? ⟨gb434, 3, none⟩ = some (.slice A0_3 l0_3.length c0_3) := (blk_cell BK434.out 3).trans rfl; have hfz7_0 := blk_frozen BK434.out 0; have hfz7_1 := blk_frozen BK434.out 1; have hfz7_2 := blk_frozen BK434.out 2; have hfz7_3 := blk_frozen BK434.out 3) | ((with_reducible refine gate_callee (f := 125) rfl ?_); refine goesL_ (some 5) rfl rfl Tryd.func125 (by kernel_rfl) rfl #[.agg #[.int .i64 a0_0, .int .i64 a0_1, .slice A0_2 l0_2.length c0_2, .slice A0_3 l0_3.length c0_3]] rfl (by (try simp only [List.map_toArray, List.map_cons, List.map_nil]); first | done | rfl | (simp only [List.length_drop, List.length_take]; rfl)) ?_; (with_reducible refine (impl_machine_tidy.calls k a0_0 a0_1 _ _ l0_2 _ _ l0_3 t436 t437 t438 t441 _ (tab_below HTab.out (by repeat (first | (with_reducible first | exact HB.out | apply below_alloc | apply pw_below_drewN | apply below_drew1 | refine below_set ?_ GE434.out | refine below_set ?_ GE435.out) | exact HB.out | exact Below.refl _ _))) ?side1 ?side2 ?side3 ?side4 A2.out).mono ?_); (case side1 => repeat (first | exact (Kd.C_below HR0_2.out HB.out) | (with_reducible refine Kd.C_alloc ?_ _) | (with_reducible refine Kd.C_drewN ?_ _) | (with_reducible refine Kd.C_drew ?_))); (case side2 => exact HC0_2.out); (case side3 => repeat (first | exact (Kd.C_below HR0_3.out HB.out) | (with_reducible refine Kd.C_alloc ?_ _) | (with_reducible refine Kd.C_drewN ?_ _) | (with_reducible refine Kd.C_drew ?_))); (case side4 => exact HC0_3.out); rintro e w8 ⟨v439, v442, rfl, ho0, ho1, hb⟩; refine ⟨_, rfl, ?_⟩; have n0_ := Aside0.mk (Kd.R_lower ho0 (below_size (by repeat (first | (with_reducible first | exact HB.out | apply below_alloc | apply pw_below_drewN | apply below_drew1 | refine below_set ?_ GE434.out | refine below_set ?_ GE435.out) | exact HB.out)))); have n1_ := Aside0.mk (Kd.S_lower ho1 (below_size (by repeat (first | (with_reducible first | exact HB.out | apply below_alloc | apply pw_below_drewN | apply below_drew1 | refine below_set ?_ GE434.out | refine below_set ?_ GE435.out) | exact HB.out)))); have n2_ := Aside0.mk (blk_below (g := gb434) (o := .cells #[.int .i64 a0_0, .int .i64 a0_1, .slice A0_2 l0_2.length c0_2, .slice A0_3 l0_3.length c0_3] 74 (0, 0)) (by (with_reducible repeat (first | refine blk_drewN ?_ _ | refine blk_drew ?_ | refine blk_alloc ?_ _)); exact BK434.out) hb); have n3_ := Aside0.mk (blk_below (g := gb435) (o := .cells #[.int .i64 0, .int .i64 0, .slice none 0 0, .slice none 0 0] 28 (0, 0)) (by (with_reducible repeat (first | refine blk_drewN ?_ _ | refine blk_drew ?_ | refine blk_alloc ?_ _)); exact BK435.out) hb); have n4_ := Aside0.mk (below_step (by repeat (first | (with_reducible first | exact HB.out | apply below_alloc | apply pw_below_drewN | apply below_drew1 | refine below_set ?_ GE434.out | refine below_set ?_ GE435.out) | exact HB.out)) hb); clear BK434; clear BK435; clear HB; have HO440 := n0_; have HO443 := n1_; have BK434 := n2_; have BK435 := n3_; have HB := n4_; clear n0_ n1_ n2_ n3_ n4_; (try clear hb); (try clear hb2); (try clear hk); (try clear hi); (try clear ho0); (try clear ho1); obtain ⟨Ao9, co9, eo9⟩ := Kd.R_slice HO440.out; subst eo9; obtain ⟨Ao10, co10, eo10⟩ := Kd.S_slice HO443.out; subst eo10) | ((with_reducible refine gate_callee (f := 126) rfl ?_); refine goesL_ (some 6) rfl rfl Tryd.func126 (by kernel_rfl) rfl #[.agg #[.int .i64 t436, .int .i64 t437, .slice Ao9 t438.length co9, .slice Ao10 t441.length co10]] rfl (by (try simp only [List.map_toArray, List.map_cons, List.map_nil]); first | done | rfl | (simp only [List.length_drop, List.length_take]; rfl)) ?_; (with_reducible refine (impl_machine_relationOf.calls k t436 t437 _ _ t438 _ _ t441 t444 t445 t446 t449 t452 _ ?side1 ?side2 ?side3 ?side4 A3.out).mono ?_); (case side1 => repeat (first | exact (Kd.R_reads' HO440.out).2.2 | (with_reducible refine Kd.C_alloc ?_ _) | (with_reducible refine Kd.C_drewN ?_ _) | (with_reducible refine Kd.C_drew ?_))); (case side2 => exact (Kd.R_reads' HO440.out).2.1); (case side3 => repeat (first | exact (Kd.S_reads' HO443.out).2.2 | (with_reducible refine Kd.C_alloc ?_ _) | (with_reducible refine Kd.C_drewN ?_ _) | (with_reducible refine Kd.C_drew ?_))); (case side4 => exact (Kd.S_reads' HO443.out).2.1); rintro e w11 ⟨v447, v450, rfl, ho0, ho1, hb⟩; refine ⟨_, rfl, ?_⟩; have n0_ := Aside0.mk (Kd.R_elder' (by (with_reducible repeat (first | apply Kd.R_alloc | apply Kd.R_drewN | apply Kd.R_drew)); exact HO440.out) (Kd.R_base ho0) hb); have n1_ := Aside0.mk (Kd.S_below (by (with_reducible repeat (first | apply Kd.S_alloc | apply Kd.S_drewN | apply Kd.S_drew)); exact HO443.out) hb); have n2_ := Aside0.mk (Kd.R_lower (Kd.R_new' ho0 (Kd.R_lt (by (with_reducible repeat (first | apply Kd.R_alloc | apply Kd.R_drewN | apply Kd.R_drew)); exact HO440.out))) (below_size (by repeat (first | (with_reducible first | exact HB.out | apply below_alloc | apply pw_below_drewN | apply below_drew1 | refine below_set ?_ GE434.out | refine below_set ?_ GE435.out) | exact HB.out)))); have n3_ := Aside0.mk (Kd.S_lower ho1 (below_size (by repeat (first | (with_reducible first | exact HB.out | apply below_alloc | apply pw_below_drewN | apply below_drew1 | refine below_set ?_ GE434.out | refine below_set ?_ GE435.out) | exact HB.out)))); have n4_ := Aside0.mk (blk_below (g := gb434) (o := .cells #[.int .i64 a0_0, .int .i64 a0_1, .slice A0_2 l0_2.length c0_2, .slice A0_3 l0_3.length c0_3] 74 (0, 0)) (by (with_reducible repeat (first | refine blk_drewN ?_ _ | refine blk_drew ?_ | refine blk_alloc ?_ _)); exact BK434.out) hb); have n5_ := Aside0.mk (blk_below (g := gb435) (o := .cells #[.int .i64 0, .int .i64 0, .slice none 0 0, .slice none 0 0] 28 (0, 0)) (by (with_reducible repeat (first | refine blk_drewN ?_ _ | refine blk_drew ?_ | refine blk_alloc ?_ _)); exact BK435.out) hb); have n6_ := Aside0.mk (below_step (by repeat (first | (with_reducible first | exact HB.out | apply below_alloc | apply pw_below_drewN | apply below_drew1 | refine below_set ?_ GE434.out | refine below_set ?_ GE435.out) | exact HB.out)) hb); clear HO440; clear HO443; clear BK434; clear BK435; clear HB; have HO440 := n0_; have HO443 := n1_; have HO448 := n2_; have HO451 := n3_; have BK434 := n4_; have BK435 := n5_; have HB := n6_; clear n0_ n1_ n2_ n3_ n4_ n5_ n6_; (try clear hb); (try clear hb2); (try clear hk); (try clear hi); (try clear ho0); (try clear ho1); have hcz12_0 : w11.cell? ⟨gb435, 0, none⟩ = some (.int .i64 0) := (blk_cell BK435.out 0).trans rfl; have hcz12_1 : w11.cell? ⟨gb435, 1, none⟩ = some (.int .i64 0) := (blk_cell BK435.out 1).trans rfl; have hcz12_2 : w11.cell? ⟨gb435, 2, none⟩ = some (.slice none 0 0) := (blk_cell BK435.out 2).trans rfl; have hcz12_3 : w11.cell? ⟨gb435, 3, none⟩ = some (.slice none 0 0) := (blk_cell BK435.out 3).trans rfl; have hfz12_0 := blk_frozen BK435.out 0; have hfz12_1 := blk_frozen BK435.out 1; have hfz12_2 := blk_frozen BK435.out 2; have hfz12_3 := blk_frozen BK435.out 3; obtain ⟨Ao13, co13, eo13⟩ := Kd.R_slice HO448.out; subst eo13; obtain ⟨Ao14, co14, eo14⟩ := Kd.S_slice HO451.out; subst eo14))
 refine bodyPost_ret (results_ct rfl _ _ gb435 28 #[.int .i64 t444, .int .i64 t445, .slice Ao13 t446.length co13, .slice Ao14 t449.length co14] (0, 0) _ rfl (by (with_reducible repeat (first | refine blk_drewN ?_ _ | refine blk_drew ?_ | refine blk_alloc ?_ _)); refine blk_put (cs := #[.int .i64 t444, .int .i64 t445, .slice Ao13 t446.length co13, .slice none 0 0]) ?_ 3 _ rfl; (with_reducible repeat (first | refine blk_drewN ?_ _ | refine blk_drew ?_ | refine blk_alloc ?_ _)); refine blk_put (cs := #[.int .i64 t444, .int .i64 t445, .slice none 0 0, .slice none 0 0]) ?_ 2 _ rfl; (with_reducible repeat (first | refine blk_drewN ?_ _ | refine blk_drew ?_ | refine blk_alloc ?_ _)); refine blk_put (cs := #[.int .i64 t444, .int .i64 0, .slice none 0 0, .slice none 0 0]) ?_ 1 _ rfl; (with_reducible repeat (first | refine blk_drewN ?_ _ | refine blk_drew ?_ | refine blk_alloc ?_ _)); refine blk_put (cs := #[.int .i64 0, .int .i64 0, .slice none 0 0, .slice none 0 0]) ?_ 0 _ rfl; (with_reducible repeat (first | refine blk_drewN ?_ _ | refine blk_drew ?_ | refine blk_alloc ?_ _)); exact BK435.out) Tryd.underlying28 rfl (by kernel_rfl)) rfl ?_
 exact ⟨_, _, by first | rfl | (simp [errW_none, errW_some] <;> rfl) | (simp [*, errW_none, errW_some] <;> rfl), by (with_reducible repeat (first | apply Kd.R_alloc | apply Kd.R_drewN | apply Kd.R_drew)); exact Kd.R_mono (Kd.R_far (p := ⟨gb435, 3, none⟩) (Kd.R_far (p := ⟨gb435, 2, none⟩) (Kd.R_far (p := ⟨gb435, 1, none⟩) (Kd.R_far (p := ⟨gb435, 0, none⟩) (Kd.R_types HO448.out BK435.out (by decide)) (fun _ hk => hk.2) (.int .i64 t444)) (fun _ hk => hk.2) (.int .i64 t445)) (fun _ hk => hk.2) (.slice Ao13 t446.length co13)) (fun _ hk => hk.2) (.slice Ao14 t449.length co14)) (fun _ hk => trivial), by (with_reducible repeat (first | apply Kd.S_alloc | apply Kd.S_drewN | apply Kd.S_drew)); exact Kd.S_mono (Kd.S_far (p := ⟨gb435, 3, none⟩) (Kd.S_far (p := ⟨gb435, 2, none⟩) (Kd.S_far (p := ⟨gb435, 1, none⟩) (Kd.S_far (p := ⟨gb435, 0, none⟩) (Kd.S_types HO451.out BK435.out (by decide)) (fun _ hk => hk.2) (.int .i64 t444)) (fun _ hk => hk.2) (.int .i64 t445)) (fun _ hk => hk.2) (.slice Ao13 t446.length co13)) (fun _ hk => hk.2) (.slice Ao14 t449.length co14)) (fun _ hk => trivial), by repeat (first | (with_reducible first | exact HB.out | apply below_alloc | apply pw_below_drewN | apply below_drew1 | refine below_set ?_ GE434.out | refine below_set ?_ GE435.out) | exact HB.out)⟩
end Go.Proofs.YtbkcllfgolmloaaDoor.X

namespace Go.Proofs.YtbkcllfgolmloaaDoor.X
open Go Go.RowKit Go.Proofs.YtbkcllfgolmloaaDoorW.PrintWords Go.Proofs.YtbkcllfgolmloaaDoorW.PrintLast Go.Proofs.YtbkcllfgolmloaaDoorW.PrintMore
set_option linter.unusedVariables false
set_option linter.unusedSimpArgs false
section
variable {α β : Type} {P : Program} {w W : World} {f : FuncId} {caps : Array Value} {arg : α → Array Value} {F : α → Option β} {enc : β → Value}
theorem CloOK.later (h : CloOK P w f caps arg F enc) (hb : Below w.heap.size w W) : CloOK P W f caps arg F enc :=
 ⟨h.fn, fun x r W' hW hF => h.run x r W' (below_then hb hb.size hW) hF⟩
end
/-- A variable that holds a function value. -/
def FunAt (W : World) (g : Nat) (T : TypeId) (f : FuncId) (caps : Array Value) : Prop := W.heap[g]? = some (.cells #[.func (.func f) #[] caps] T (0, 0))
def accK (acc : Int → Option Bool) (x : Int) : Option Bool := if 0 ≤ x then acc x else some false
set_option maxHeartbeats 4000000 in
set_option maxRecDepth 100000 in
theorem known1_clo {w : World} {g : Nat} {na : FuncId} {ca : Array Value} {acc : Int → Option Bool} (hv : FunAt w g 85 na ca) (hA : CloOK Tryd.prog w na ca (fun x : Int => #[.int .i64 x]) acc Value.bool) :
  CloOK Tryd.prog w 122 #[.pointer (some ⟨g, 0, none⟩)] (fun x : Int => #[.int .i64 x]) (accK acc) Value.bool := by
 refine ⟨⟨_, Tryd.func122, by kernel_rfl, rfl⟩, fun x r W hb h => ?_⟩
 have hv0 : W.cell? ⟨g, 0, none⟩ = some (.func (.func na) #[] ca) := (blk_cell (blk_below hv hb) 0).trans rfl
 have HA := Aside0.mk (hA.later hb)
 obtain ⟨fa, ha1, ha2, ha3⟩ := hA.fn
 have hea := fun args W' => enters_ (P := Tryd.prog) ha1 ha2 ha3 args W'
 clear hv hA hb ha1 ha2 ha3
 show Calls Tryd.prog 122 #[.int .i64 x, .pointer (some ⟨g, 0, none⟩)] W fun e W' => e = .returned (.bool r) ∧ Below W.heap.size W W'
 unfold accK at h
 by_cases c : 0 ≤ x
 ·rw [if_pos c] at h
  have H := Aside0.mk h
  have c1 : decide (x ≥ 0) = true := decide_eq_true c
  have c2 : decide (0 ≤ x) = true := decide_eq_true c
  clear h c
  go_enter Tryd.func122, Tryd.ntmps122
  go_wp2_with (fail)
  with_reducible refine (HA.out.run x r W (Below.refl _ _) H.out).mono ?_
  rintro e w1 ⟨rfl, hb1⟩
  have HB := Aside0.mk hb1
  clear hb1
  go_wp2
  go_ret
  exact ⟨rfl, HB.out⟩
 ·rw [if_neg c] at h
  obtain rfl := Option.some.inj h
  have c1 : decide (x ≥ 0) = false := decide_eq_false c
  have c2 : decide (0 ≤ x) = false := decide_eq_false c
  clear h c
  go_enter Tryd.func122, Tryd.ntmps122
  go_wp2
  go_ret
  exact ⟨rfl, Below.refl _ _⟩
def nextK (k : Nat) (next : Int × Int × Int → Option Int) (q c : Int) : Option Int :=
 if q < 0 then some (-1) else (impl_digitsOf.f k 2 c).bind fun ds => (at1 0 ds 0).bind fun a => (at1 0 ds 1).bind fun b => next (q, a, b)
set_option maxHeartbeats 4000000 in
set_option maxRecDepth 100000 in
theorem known2_clo {k : Nat} {w : World} {g : Nat} {nn : FuncId} {cn : Array Value} {next : Int × Int × Int → Option Int} (hv : FunAt w g 86 nn cn) (hN : CloOK Tryd.prog w nn cn (fun x : Int × Int × Int => #[.int .i64 x.1, .int .i64 x.2.1, .int .i64 x.2.2]) next (Value.int .i64)) :
  CloOK Tryd.prog w 123 #[.pointer (some ⟨g, 0, none⟩)] (fun x : Int × Int => #[.int .i64 x.1, .int .i64 x.2]) (fun x => nextK k next x.1 x.2) (Value.int .i64) := by
 refine ⟨⟨_, Tryd.func123, by kernel_rfl, rfl⟩, fun x r W hb h => ?_⟩
 obtain ⟨q, c⟩ := x
 have hv0 := Aside0.mk (blk_below hv hb)
 have HN := Aside0.mk (hN.later hb)
 clear hv hN hb
 replace h : nextK k next q c = some r := h
 show Calls Tryd.prog 123 #[.int .i64 q, .int .i64 c, .pointer (some ⟨g, 0, none⟩)] W fun e W' => e = .returned (.int .i64 r) ∧ Below W.heap.size W W'
 unfold nextK at h
 by_cases c0 : q < 0
 ·rw [if_pos c0] at h
  obtain rfl := Option.some.inj h
  have c1 : decide (q < 0) = true := decide_eq_true c0
  clear h c0
  go_enter Tryd.func123, Tryd.ntmps123
  go_wp2
  go_ret
  exact ⟨rfl, Below.refl _ _⟩
 ·rw [if_neg c0] at h
  have c1 : decide (q < 0) = false := decide_eq_false c0
  obtain ⟨ds, h1, h⟩ := Option.bind_eq_some_iff.mp h
  obtain ⟨a, h2, h⟩ := Option.bind_eq_some_iff.mp h
  obtain ⟨b, h3, h⟩ := Option.bind_eq_some_iff.mp h
  obtain ⟨p0, q0, ea⟩ := at1_some h2
  obtain ⟨p1, q1, eb⟩ := at1_some h3
  have H1 := Aside0.mk h1
  have HE := Aside0.mk (And.intro ea eb)
  have HQ := Aside0.mk (And.intro q0 q1)
  have H := Aside0.mk h
  clear h1 h2 h3 h p0 q0 p1 q1 ea eb c0
  go_enter Tryd.func123, Tryd.ntmps123
  go_wp2_with (fail)
  with_reducible refine (impl_digitsOf.calls k 2 c ds _ H1.out).mono ?_
  rintro e w1 ⟨vd, rfl, hR, hb1⟩
  obtain ⟨g2, c2, hv2, -⟩ := Kd.R_form hR (by have := HQ.out.1; omega)
  subst hv2
  obtain ⟨hx0, -⟩ := Kd.R_cell (0 : Int) hR 0 (by omega) (by have := HQ.out.1; omega)
  obtain ⟨hx1, -⟩ := Kd.R_cell (0 : Int) hR 1 (by omega) (by have := HQ.out.2; omega)
  rw [← HE.out.1] at hx0
  rw [← HE.out.2] at hx1
  have HV := Aside0.mk (blk_below hv0.out hb1)
  have HB := Aside0.mk hb1
  have HN1 := Aside0.mk (HN.out.later hb1)
  have X0 := Aside0.mk hx0
  have X1 := Aside0.mk hx1
  have hq0 : (0 < ds.length) = True := eq_true (by have := HQ.out.1; omega)
  have hq1 : (1 < ds.length) = True := eq_true (by have := HQ.out.2; omega)
  have hr0 : ((0 : Int) < (ds.length : Int)) = True := eq_true (by have := HQ.out.1; omega)
  have hr1 : ((1 : Int) < (ds.length : Int)) = True := eq_true (by have := HQ.out.2; omega)
  clear hR hb1 hx0 hx1 HE HQ HN hv0
  go_upto_region 4 with (fail)
  have HB1 := Aside0.mk (below_drew1 HB.out)
  have HN2 := Aside0.mk (HN1.out.later (below_drew (Below.refl _ _)))
  have hS : w1.drew.cell? ⟨g, 0, none⟩ = some (.func (.func nn) #[] cn) ∧ w1.drew.cell? ⟨g2, 0, none⟩ = some (.int .i64 a) ∧ w1.drew.cell? ⟨g2, 1, none⟩ = some (.int .i64 b) ∧ True := ⟨(blk_cell HV.out 0).trans rfl, X0.out, X1.out, trivial⟩
  clear HB HN1 HV X0 X1
  refine start_ (n := 10) (S := fun w' => w'.cell? ⟨g, 0, none⟩ = some (.func (.func nn) #[] cn) ∧ w'.cell? ⟨g2, 0, none⟩ = some (.int .i64 a) ∧ w'.cell? ⟨g2, 1, none⟩ = some (.int .i64 b) ∧ True) (ds := [8]) #[false, false, false, false, false, false, false, false, false, false] (by kernel_rfl) rfl rfl hS (fun hHeld => ?_)
  clear hS
  generalize w1.drew = w2 at *
  refine take_ (i := 0) (N := some 11) (v := ?_) (a' := ?_) #[true, false, false, false, false, false, false, false, false, false] rfl rfl (by kernel_rfl) (fun _ _ _ h => h) (Or.inl ⟨by rfl, ?_⟩) hHeld ?_ ?_
  rotate_left
  ·rintro w' ⟨s0, s1, s2, s3⟩
   go_simp
   with_reducible rfl
  rotate_left
  ·simp only [Act.put, List.setIfInBounds_toArray, List.set_cons_zero, List.set_cons_succ]
   rfl
  refine pure_ (i := 1) (N := some 12) (v := ?_) (a' := ?_) #[true, true, false, false, false, false, false, false, false, false] rfl rfl (by kernel_rfl) (fun _ _ _ h => h) (Or.inl ⟨by rfl, ?_⟩) ?_ ?_
  rotate_left
  ·intro w'
   go_simp
   with_reducible rfl
  rotate_left
  ·simp only [Act.put, List.setIfInBounds_toArray, List.set_cons_zero, List.set_cons_succ]
   rfl
  refine pure_ (i := 2) (N := some 13) (v := ?_) (a' := ?_) #[true, true, true, false, false, false, false, false, false, false] rfl rfl (by kernel_rfl) (fun _ _ _ h => h) (Or.inl ⟨by rfl, ?_⟩) ?_ ?_
  rotate_left
  ·intro w'
   go_simp
   with_reducible rfl
  rotate_left
  ·simp only [Act.put, List.setIfInBounds_toArray, List.set_cons_zero, List.set_cons_succ]
   rfl
  refine pure_ (i := 3) (N := some 14) (v := ?_) (a' := ?_) #[true, true, true, true, false, false, false, false, false, false] rfl rfl (by kernel_rfl) (fun _ _ _ h => h) (Or.inl ⟨by rfl, ?_⟩) ?_ ?_
  rotate_left
  ·intro w'
   go_simp
   with_reducible rfl
  rotate_left
  ·simp only [Act.put, List.setIfInBounds_toArray, List.set_cons_zero, List.set_cons_succ]
   rfl
  refine take_ (i := 4) (N := some 15) (v := ?_) (a' := ?_) #[true, true, true, true, true, false, false, false, false, false] rfl rfl (by kernel_rfl) (fun _ _ _ h => h) (Or.inl ⟨by rfl, ?_⟩) hHeld ?_ ?_
  rotate_left
  ·rintro w' ⟨s0, s1, s2, s3⟩
   go_simp
   with_reducible rfl
  rotate_left
  ·simp only [Act.put, List.setIfInBounds_toArray, List.set_cons_zero, List.set_cons_succ]
   rfl
  refine pure_ (i := 5) (N := some 16) (v := ?_) (a' := ?_) #[true, true, true, true, true, true, false, false, false, false] rfl rfl (by kernel_rfl) (fun _ _ _ h => h) (Or.inl ⟨by rfl, ?_⟩) ?_ ?_
  rotate_left
  ·intro w'
   go_simp
   with_reducible rfl
  rotate_left
  ·simp only [Act.put, List.setIfInBounds_toArray, List.set_cons_zero, List.set_cons_succ]
   rfl
  refine pure_ (i := 6) (N := some 17) (v := ?_) (a' := ?_) #[true, true, true, true, true, true, true, false, false, false] rfl rfl (by kernel_rfl) (fun _ _ _ h => h) (Or.inl ⟨by rfl, ?_⟩) ?_ ?_
  rotate_left
  ·intro w'
   go_simp
   with_reducible rfl
  rotate_left
  ·simp only [Act.put, List.setIfInBounds_toArray, List.set_cons_zero, List.set_cons_succ]
   rfl
  refine take_ (i := 7) (N := some 18) (v := ?_) (a' := ?_) #[true, true, true, true, true, true, true, true, false, false] rfl rfl (by kernel_rfl) (fun _ _ _ h => h) (Or.inl ⟨by rfl, ?_⟩) hHeld ?_ ?_
  rotate_left
  ·rintro w' ⟨s0, s1, s2, s3⟩
   go_simp
   with_reducible rfl
  rotate_left
  ·simp only [Act.put, List.setIfInBounds_toArray, List.set_cons_zero, List.set_cons_succ]
   rfl
  refine last_ (i := 8) (N := some 19) #[true, true, true, true, true, true, true, true, true, false] rfl rfl (by kernel_rfl) (by decide) (fun K hK => ?_)
  obtain ⟨fn, ha1, ha2, ha3⟩ := HN2.out.fn
  refine call_ nn (#[.int .i64 q, .int .i64 a, .int .i64 b] ++ cn) (by rfl) rfl (runs_val ha1 ha2 ha3 _ rfl rfl (by (try simp only [List.map_toArray, List.map_cons, List.map_nil]); rfl)) ?_
  refine (HN2.out.run (q, a, b) r w2 (Below.refl _ _) H.out).mono ?_
  rintro e w3 ⟨rfl, hb3⟩
  refine ⟨_, rfl, ?_⟩
  have HB3 := Aside0.mk (below_then HB1.out HB1.out.size hb3)
  clear HB1 HN2 hHeld hb3
  refine hK.out _ _ ?_
  clear hK K
  refine norm_ (a' := ?_) ?_ ?_
  rotate_left
  ·show Act.put _ (some 19) _ = _
   simp only [Act.put, List.setIfInBounds_toArray, List.set_cons_zero, List.set_cons_succ]
   rfl
  refine pure_ (i := 9) (N := some 5) (v := ?_) (a' := ?_) #[true, true, true, true, true, true, true, true, true, true] rfl rfl (by kernel_rfl) (fun _ _ _ h => h) (Or.inl ⟨by rfl, ?_⟩) ?_ ?_
  rotate_left
  ·intro w'
   go_simp
   with_reducible rfl
  rotate_left
  ·simp only [Act.put, List.setIfInBounds_toArray, List.set_cons_zero, List.set_cons_succ]
   rfl
  refine done_ (by kernel_rfl) ?_
  go_wp2
  go_ret
  exact ⟨rfl, HB3.out⟩
theorem fill_endR {w W : World} {va vr : Value} {bs : List Bool} {rs : List (List Int)} {base : Nat} (hR : Kd.bool.R 4 W base (fun _ => True) va bs) (hS : Kd.S (Kd.slice 2 (Kd.int .i64)) 55 W base (fun _ => True) vr rs) (hbase : w.heap.size ≤ base) (hb : Below w.heap.size w W) {b : Nat} {cs : Array Value} (h : W.heap[b]? = some (.cells cs 28 (0, 0))) (hbb : w.heap.size ≤ b) (x y : Value) :
  Kd.bool.R 4 (set4 W b x y va vr) w.heap.size (fun _ => True) va bs ∧ Kd.S (Kd.slice 2 (Kd.int .i64)) 55 (set4 W b x y va vr) w.heap.size (fun _ => True) vr rs ∧ Below w.heap.size w (set4 W b x y va vr) :=
 ⟨R_set4 (Kd.R_lower hR hbase) h (by decide) _ _ _ _, S_set4 (Kd.S_lower hS hbase) h (by decide) _ _ _ _, below_set4 hb hbb _ _ _ _⟩
/-- The relation of a machine that 'grow' made (whole numbers as keys). -/
def grownF (k W : Nat) (tapes : Int) (acc : Int → Option Bool) (next : Int → Int → Option Int) : Option (Int × Int × List Bool × List (List Int)) :=
 (growL inI64 acc next W k [0] [] []).bind fun p => (impl_machine_tidied.f k tapes 0 p.1 p.2).bind fun r => some (r.1, r.2.1, r.2.2.1, r.2.2.2.1)
def knownF (k : Nat) (acc : Int → Option Bool) (next : Int × Int × Int → Option Int) : Option (Int × Int × List Bool × List (List Int)) := grownF k 8 2 (accK acc) (nextK k next)
theorem wide2 (k : Nat) (hk : 10 ≤ k) : impl_widthOf.f k 2 = some ((8 : Nat) : Int) := at_rounds (fun k => impl_widthOf.mono _ k) hk (by decide +kernel : impl_widthOf.f 10 2 = some ((8 : Nat) : Int))
def RelPost (w : World) (r1 r2 : Int) (r3 : List Bool) (r4 : List (List Int)) (e : Ending) (w' : World) : Prop :=
 ∃ v2 v3 : Value, e = .returned (.agg #[.int .i64 r1, .int .i64 r2, v2, v3]) ∧ Kd.R Kd.bool 4 w' w.heap.size (fun _ => True) v2 r3 ∧ Kd.S (Kd.slice 2 (Kd.int .i64)) 55 w' w.heap.size (fun _ => True) v3 r4 ∧ Below w.heap.size w w'
set_option maxHeartbeats 4000000 in
set_option maxRecDepth 100000 in
theorem known_calls {k : Nat} {na nn : FuncId} {ca cn : Array Value} {acc : Int → Option Bool} {next : Int × Int × Int → Option Int} {r1 r2 : Int} {r3 : List Bool} {r4 : List (List Int)} (w : World) (htab : TabOK w)
  (hA : CloOK Tryd.prog w na ca (fun x : Int => #[.int .i64 x]) acc Value.bool) (hN : CloOK Tryd.prog w nn cn (fun x : Int × Int × Int => #[.int .i64 x.1, .int .i64 x.2.1, .int .i64 x.2.2]) next (Value.int .i64)) (h : knownF k acc next = some (r1, r2, r3, r4)) :
  Calls Tryd.prog 75 #[.func (.func na) #[] ca, .func (.func nn) #[] cn] w (RelPost w r1 r2 r3 r4) := by
 unfold knownF grownF at h
 obtain ⟨⟨bs, rs⟩, h1, h⟩ := Option.bind_eq_some_iff.mp h
 obtain ⟨⟨q1, q2, q3, q4, q5⟩, h2, h⟩ := Option.bind_eq_some_iff.mp h
 simp only [Option.some.injEq, Prod.mk.injEq] at h
 obtain ⟨rfl, rfl, rfl, rfl⟩ := h
 have HT := Aside0.mk htab
 have HA := Aside0.mk hA
 have HN := Aside0.mk hN
 have H1 := Aside0.mk h1
 have H2 := Aside0.mk h2
 clear htab hA hN h1 h2
 go_enter Tryd.func75, Tryd.ntmps75
 go_upto_region 1 with (fail)
 have HB0 := Aside0.mk (below_alloc (below_alloc (below_alloc (Below.refl w.heap.size w) (.cells #[.func (.func na) #[] ca] 85)) (.cells #[.func (.func nn) #[] cn] 86)) (.cells #[.int .i64 0, .int .i64 0, .slice none 0 0, .slice none 0 0] 28))
 have FA : FunAt (((w.alloc (.cells #[.func (.func na) #[] ca] 85)).alloc (.cells #[.func (.func nn) #[] cn] 86)).alloc (.cells #[.int .i64 0, .int .i64 0, .slice none 0 0, .slice none 0 0] 28)) w.heap.size 85 na ca := blk_alloc (blk_alloc (blk_new w _) _) _
 have FN : FunAt (((w.alloc (.cells #[.func (.func na) #[] ca] 85)).alloc (.cells #[.func (.func nn) #[] cn] 86)).alloc (.cells #[.int .i64 0, .int .i64 0, .slice none 0 0, .slice none 0 0] 28)) (w.heap.size + 1) 86 nn cn := blk_alloc (by have h_ := blk_new (w.alloc (.cells #[.func (.func na) #[] ca] 85)) (.cells #[.func (.func nn) #[] cn] 86); simpa using h_) _
 have BR : (((w.alloc (.cells #[.func (.func na) #[] ca] 85)).alloc (.cells #[.func (.func nn) #[] cn] 86)).alloc (.cells #[.int .i64 0, .int .i64 0, .slice none 0 0, .slice none 0 0] 28)).heap[w.heap.size + 2]? = some (.cells #[.int .i64 0, .int .i64 0, .slice none 0 0, .slice none 0 0] 28 (0, 0)) := by
  have h_ := blk_new ((w.alloc (.cells #[.func (.func na) #[] ca] 85)).alloc (.cells #[.func (.func nn) #[] cn] 86)) (.cells #[.int .i64 0, .int .i64 0, .slice none 0 0, .slice none 0 0] 28)
  simpa using h_
 have HFA := Aside0.mk FA
 have HFN := Aside0.mk FN
 have HBR := Aside0.mk BR
 clear FA FN BR
 generalize World.alloc _ _ = w3 at *
 have C1 := Aside0.mk (known1_clo HFA.out (HA.out.later HB0.out))
 have C2 := Aside0.mk (known2_clo (k := k) HFN.out (HN.out.later HB0.out))
 go_wp2_with (fail)
 with_reducible refine (grow_int_calls (kw := k + 10) w3 C1.out C2.out (wide2 _ (by omega)) (by omega) (by decide) H1.out).mono ?_
 rintro e w4 ⟨va, vr, rfl, hR, hS, hb4⟩
 obtain ⟨A2, c2, hv2⟩ := Kd.R_slice hR
 subst hv2
 obtain ⟨A3, c3, hv3⟩ := Kd.S_slice hS
 subst hv3
 have HB4 := Aside0.mk (below_then HB0.out HB0.out.size hb4)
 have HBR4 := Aside0.mk (blk_below HBR.out hb4)
 have HR4 := Aside0.mk hR
 have HS4 := Aside0.mk hS
 clear HB0 HFA HFN HBR C1 C2 hR hS hb4
 go_upto_region 2 with (fail)
 have HB5 := Aside0.mk (below_alloc HB4.out (.cells #[.int .i64 2, .int .i64 0, .slice A2 bs.length c2, .slice A3 rs.length c3] 74))
 have BM5 := Aside0.mk (blk_new w4 (.cells #[.int .i64 2, .int .i64 0, .slice A2 bs.length c2, .slice A3 rs.length c3] 74))
 have HBR5 := Aside0.mk (blk_alloc HBR4.out (.cells #[.int .i64 2, .int .i64 0, .slice A2 bs.length c2, .slice A3 rs.length c3] 74))
 have HR5 := Aside0.mk (Kd.R_alloc HR4.out (.cells #[.int .i64 2, .int .i64 0, .slice A2 bs.length c2, .slice A3 rs.length c3] 74))
 have HS5 := Aside0.mk (Kd.S_alloc HS4.out (.cells #[.int .i64 2, .int .i64 0, .slice A2 bs.length c2, .slice A3 rs.length c3] 74))
 clear HB4 HBR4 HR4 HS4
 generalize w4.alloc _ = w5 at *
 have hx0 : w5.cell? ⟨w4.heap.size, 0, none⟩ = some (.int .i64 2) := (blk_cell BM5.out 0).trans rfl
 have hx1 : w5.cell? ⟨w4.heap.size, 1, none⟩ = some (.int .i64 0) := (blk_cell BM5.out 1).trans rfl
 have hx2 : w5.cell? ⟨w4.heap.size, 2, none⟩ = some (.slice A2 bs.length c2) := (blk_cell BM5.out 2).trans rfl
 have hx3 : w5.cell? ⟨w4.heap.size, 3, none⟩ = some (.slice A3 rs.length c3) := (blk_cell BM5.out 3).trans rfl
 go_wp2_with (fail)
 clear hx0 hx1 hx2 hx3
 with_reducible refine (impl_machine_tidied.calls k 2 0 _ _ bs _ _ rs q1 q2 q3 q4 q5 _ (tab_below HT.out HB5.out) (Kd.R_reads' HR5.out).2.2 (Kd.R_reads' HR5.out).2.1 (Kd.S_reads' HS5.out).2.2 (Kd.S_reads' HS5.out).2.1 H2.out).mono ?_
 rintro e w6 ⟨v2, v3, rfl, hR, hS, hb6⟩
 obtain ⟨B2, d2, hv2⟩ := Kd.R_slice hR
 subst hv2
 obtain ⟨B3, d3, hv3⟩ := Kd.S_slice hS
 subst hv3
 have HB6 := Aside0.mk (below_then HB5.out HB5.out.size hb6)
 have HBR6 := Aside0.mk (blk_below HBR5.out hb6)
 have HR6 := Aside0.mk (Kd.R_lower hR HB5.out.size)
 have HS6 := Aside0.mk (Kd.S_lower hS HB5.out.size)
 clear HB5 BM5 HBR5 HR5 HS5 hR hS hb6
 go_upto_region 3 with (fail)
 have HB7 := Aside0.mk (below_alloc HB6.out (.cells #[.int .i64 q1, .int .i64 q2, .slice B2 q3.length d2, .slice B3 q4.length d3] 28))
 have BM7 := Aside0.mk (blk_new w6 (.cells #[.int .i64 q1, .int .i64 q2, .slice B2 q3.length d2, .slice B3 q4.length d3] 28))
 have HBR7 := Aside0.mk (blk_alloc HBR6.out (.cells #[.int .i64 q1, .int .i64 q2, .slice B2 q3.length d2, .slice B3 q4.length d3] 28))
 have HR7 := Aside0.mk (Kd.R_alloc HR6.out (.cells #[.int .i64 q1, .int .i64 q2, .slice B2 q3.length d2, .slice B3 q4.length d3] 28))
 have HS7 := Aside0.mk (Kd.S_alloc HS6.out (.cells #[.int .i64 q1, .int .i64 q2, .slice B2 q3.length d2, .slice B3 q4.length d3] 28))
 clear HB6 HBR6 HR6 HS6
 generalize w6.alloc _ = w7 at *
 have hx0 : w7.cell? ⟨w6.heap.size, 0, none⟩ = some (.int .i64 q1) := (blk_cell BM7.out 0).trans rfl
 have hx1 : w7.cell? ⟨w6.heap.size, 1, none⟩ = some (.int .i64 q2) := (blk_cell BM7.out 1).trans rfl
 have hx2 : w7.cell? ⟨w6.heap.size, 2, none⟩ = some (.slice B2 q3.length d2) := (blk_cell BM7.out 2).trans rfl
 have hx3 : w7.cell? ⟨w6.heap.size, 3, none⟩ = some (.slice B3 q4.length d3) := (blk_cell BM7.out 3).trans rfl
 have n0 : w7.cell? ⟨w.heap.size + 2, 0, none⟩ = some (.int .i64 0) := (blk_cell HBR7.out 0).trans rfl
 have n1 : w7.cell? ⟨w.heap.size + 2, 1, none⟩ = some (.int .i64 0) := (blk_cell HBR7.out 1).trans rfl
 have n2 : w7.cell? ⟨w.heap.size + 2, 2, none⟩ = some (.slice none 0 0) := (blk_cell HBR7.out 2).trans rfl
 have n3 : w7.cell? ⟨w.heap.size + 2, 3, none⟩ = some (.slice none 0 0) := (blk_cell HBR7.out 3).trans rfl
 have f0 := blk_frozen HBR7.out 0
 have f1 := blk_frozen HBR7.out 1
 have f2 := blk_frozen HBR7.out 2
 have f3 := blk_frozen HBR7.out 3
 have HE := Aside0.mk (fill_endR (w := w) HR7.out HS7.out (Nat.le_refl _) HB7.out HBR7.out (by omega) (.int .i64 q1) (.int .i64 q2))
 clear HB7 BM7 HBR7 HR7 HS7
 go_wp2
 refine bodyPost_ret (v := .agg #[.int .i64 q1, .int .i64 q2, .slice B2 q3.length d2, .slice B3 q4.length d3]) (by simp [results, Tryd.results75, go_sem, n0, n1, n2, n3]) rfl ⟨_, _, rfl, HE.out⟩
end Go.Proofs.YtbkcllfgolmloaaDoor.X

