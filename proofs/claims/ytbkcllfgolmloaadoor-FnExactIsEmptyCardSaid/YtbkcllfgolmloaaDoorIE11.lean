import Derived.Test.YtbkcllfgolmloaaDoorIE2
import Derived.Test.YtbkcllfgolmloaaDoorIE3
import Derived.Test.YtbkcllfgolmloaaDoorIE8
import Derived.Test.YtbkcllfgolmloaaDoorIE10
import Derived.Test.YtbkcllfgolmloaaDoorRows
import Derived.Test.YtbkcllfgolmloaaDoorIE6
import Derived.Lib.LaidTab
import Derived.LaidLaws
import Derived.ChangeVars
import Derived.JoinedOf
import Derived.JoinedAt
import Derived.Deep.Matrix
import Derived.Deep.Grids
import Derived.Lib.SmallJoins
import Derived.ProofKit
import Derived.OpenShut
import Derived.Test.YtbkcllfgolmloaaDoorIE7
import Derived.Test.YtbkcllfgolmloaaDoorIE5
-- Written by a program of this claim's author, out of the translation.
namespace Go.Proofs.YtbkcllfgolmloaaDoor.X
open Go.RowKit Go.Proofs.YtbkcllfgolmloaaDoorW.PrintWords Go.Proofs.YtbkcllfgolmloaaDoorW.PrintLast Go.Proofs.YtbkcllfgolmloaaDoorW.PrintMore
attribute [local go_sem] max2_int min2_int max_two min_two max_three min_three max_four min_four   -- for this text's walks alone
set_option linter.unusedVariables false
set_option linter.unusedSimpArgs false
def laws_FnExactIsEmpty.j0 : Nat → Bool → Int → Int → List Bool → List (List Int) → Int → Int → List Bool → List (List Int) → Option (Bool)
 | 0, _, _, _, _, _, _, _, _, _ => none
 | k + 1, x34, x890000, x890001, x890002, x890003, x910000, x910001, x910002, x910003 => if x34 = true then (some false) else ((laws_toRelation.f k x890000 x890001 x890002 x890003).bind fun bt912 => ((laws_eqRelation.f k x910000 x910001 x910002 x910003 bt912.1 bt912.2.1 bt912.2.2.1 bt912.2.2.2).bind fun t920 => (if t920 = true then (some true) else (some false))))
def laws_FnExactIsEmpty.f (k : Nat) (a0_0 : Int) (a0_1 : Int) (l0_2 : List Bool) (l0_3 : List (List Int)) : Option (Bool) := (laws_szRelation.f k a0_0 a0_1 l0_2 l0_3 1048576).bind fun t890 => (if t890 < 0 then (some true) else ((laws_toRelation.f k a0_0 a0_1 l0_2 l0_3).bind fun bt891 => ((spec_IsEmpty.f k bt891.1 bt891.2.1 bt891.2.2.1 bt891.2.2.2).bind fun bt899 => ((laws_toRelation.f k a0_0 a0_1 l0_2 l0_3).bind fun bt901 => ((impl_IsEmpty.f k bt901.1 bt901.2.1 bt901.2.2.1 bt901.2.2.2).bind fun bt910 => (if (bt910.1 != bt899.1) = true then (laws_FnExactIsEmpty.j0 k true a0_0 a0_1 l0_2 l0_3 bt901.1 bt901.2.1 bt901.2.2.1 bt901.2.2.2) else (laws_FnExactIsEmpty.j0 k (bt910.2 != bt899.2) a0_0 a0_1 l0_2 l0_3 bt901.1 bt901.2.1 bt901.2.2.1 bt901.2.2.2)))))))
set_option maxHeartbeats 8000000 in
set_option maxRecDepth 100000 in
theorem laws_FnExactIsEmpty.calls (k : Nat) (a0_0 : Int) (a0_1 : Int) (A0_2 : Option Addr) (c0_2 : Nat) (l0_2 : List Bool) (A0_3 : Option Addr) (c0_3 : Nat) (l0_3 : List (List Int)) (r : Bool) (w : World) (htab : TabOK w) (hr0_2 : Kd.C Kd.bool w A0_2 l0_2.length l0_2) (hc0_2 : l0_2.length ≤ c0_2) (hr0_3 : Kd.C (Kd.slice 2 (Kd.int .i64)) w A0_3 l0_3.length l0_3) (hc0_3 : l0_3.length ≤ c0_3) (h : laws_FnExactIsEmpty.f k a0_0 a0_1 l0_2 l0_3 = some r) :
  Calls Tryd.prog 13 #[.agg #[.int .i64 a0_0, .int .i64 a0_1, .slice A0_2 l0_2.length c0_2, .slice A0_3 l0_3.length c0_3]] w fun e w' => e = .returned (.bool r) ∧ Below w.heap.size w w' := by
 have HTab := Aside0.mk htab
 clear htab
 have hu25 := Tryd.underlying25
 have hu28 := Tryd.underlying28
 have HR0_2 := Aside0.mk hr0_2
 have HC0_2 := Aside0.mk hc0_2
 clear hr0_2 hc0_2
 have HR0_3 := Aside0.mk hr0_3
 have HC0_3 := Aside0.mk hc0_3
 clear hr0_3 hc0_3
 have HB := Aside0.mk (Below.refl w.heap.size w)
 have H : ((laws_szRelation.f k a0_0 a0_1 l0_2 l0_3 1048576).bind fun t890 => (if t890 < 0 then (some true) else ((laws_toRelation.f k a0_0 a0_1 l0_2 l0_3).bind fun bt891 => ((spec_IsEmpty.f k bt891.1 bt891.2.1 bt891.2.2.1 bt891.2.2.2).bind fun bt899 => ((laws_toRelation.f k a0_0 a0_1 l0_2 l0_3).bind fun bt901 => ((impl_IsEmpty.f k bt901.1 bt901.2.1 bt901.2.2.1 bt901.2.2.2).bind fun bt910 => (if (bt910.1 != bt899.1) = true then (laws_FnExactIsEmpty.j0 k true a0_0 a0_1 l0_2 l0_3 bt901.1 bt901.2.1 bt901.2.2.1 bt901.2.2.2) else (laws_FnExactIsEmpty.j0 k (bt910.2 != bt899.2) a0_0 a0_1 l0_2 l0_3 bt901.1 bt901.2.1 bt901.2.2.1 bt901.2.2.2)))))))) = some r := h
 clear h
 replace H := Option.bind_eq_some_iff.mp H
 obtain ⟨t890, A20, H⟩ := H
 replace H : (if t890 < 0 then (some true) else ((laws_toRelation.f k a0_0 a0_1 l0_2 l0_3).bind fun bt891 => ((spec_IsEmpty.f k bt891.1 bt891.2.1 bt891.2.2.1 bt891.2.2.2).bind fun bt899 => ((laws_toRelation.f k a0_0 a0_1 l0_2 l0_3).bind fun bt901 => ((impl_IsEmpty.f k bt901.1 bt901.2.1 bt901.2.2.1 bt901.2.2.2).bind fun bt910 => (if (bt910.1 != bt899.1) = true then (laws_FnExactIsEmpty.j0 k true a0_0 a0_1 l0_2 l0_3 bt901.1 bt901.2.1 bt901.2.2.1 bt901.2.2.2) else (laws_FnExactIsEmpty.j0 k (bt910.2 != bt899.2) a0_0 a0_1 l0_2 l0_3 bt901.1 bt901.2.1 bt901.2.2.1 bt901.2.2.2))))))) = some r := H
 have A2 := Aside0.mk A20
 clear A20
 by_cases c3 : t890 < 0
 ·rw [if_pos c3] at H
  have c3b0 : decide (t890 < 0) = true := decide_eq_true c3
  clear c3
  obtain rfl := Option.some.inj H
  go_enter Tryd.func13, Tryd.ntmps13
  go_wp2_with (first | ((with_reducible refine gate_dst (N := 1) rfl ?_); refine box_event ?hg (N := 1) ?hd (cs := #[.int .i64 a0_0, .int .i64 a0_1, .slice A0_2 l0_2.length c0_2, .slice A0_3 l0_3.length c0_3]) (t := 25) ?hr ?_; (case hd => rfl); (case hg => rfl); (case hr => first | (go_simp; done) | (go_simp; rfl)); intro gb889 hg w4 hbox hb; have n0_ := Aside0.mk (below_step (by repeat (first | (with_reducible first | exact HB.out | apply below_alloc | apply pw_below_drewN | apply below_drew1) | exact HB.out)) hb); have n1_ := Aside0.mk (hbox); have n2_ := Aside0.mk ((by rw [hg]; exact (below_size (by repeat (first | (with_reducible first | exact HB.out | apply below_alloc | apply pw_below_drewN | apply below_drew1) | exact HB.out))) : w.heap.size ≤ gb889)); have n3_ := Aside0.mk ((by rw [hg]; exact (below_size (by repeat (first | (with_reducible first | exact HB.out | apply below_alloc | apply pw_below_drewN | apply below_drew1) | exact HB.out))) : w.heap.size ≤ gb889)); clear HB; have HB := n0_; have BK889 := n1_; have GW889 := n2_; have GE889 := n3_; clear n0_ n1_ n2_ n3_; clear hb hbox hg; have hcz5_0 : w4.cell? ⟨gb889, 0, none⟩ = some (.int .i64 a0_0) := (blk_cell BK889.out 0).trans rfl; have hcz5_1 : w4.cell? ⟨gb889, 1, none⟩ = some (.int .i64 a0_1) := (blk_cell BK889.out 1).trans rfl; have hcz5_2 : w4.cell? ⟨gb889, 2, none⟩ = some (.slice A0_2 l0_2.length c0_2) := (blk_cell BK889.out 2).trans rfl; have hcz5_3 : w4.cell? ⟨gb889, 3, none⟩ = some (.slice A0_3 l0_3.length c0_3) := (blk_cell BK889.out 3).trans rfl; have hfz5_0 := blk_frozen BK889.out 0; have hfz5_1 := blk_frozen BK889.out 1; have hfz5_2 := blk_frozen BK889.out 2; have hfz5_3 := blk_frozen BK889.out 3) | ((with_reducible refine gate_callee (f := 14) rfl ?_); refine goesL_ (some 11) rfl rfl Tryd.func14 (by kernel_rfl) rfl #[.agg #[.int .i64 a0_0, .int .i64 a0_1, .slice A0_2 l0_2.length c0_2, .slice A0_3 l0_3.length c0_3], .int .i64 1048576] rfl (by (try simp only [List.map_toArray, List.map_cons, List.map_nil]); first | done | rfl | (simp only [List.length_drop, List.length_take]; rfl)) ?_; (with_reducible refine (laws_szRelation.calls k a0_0 a0_1 _ _ l0_2 _ _ l0_3 1048576 t890 _ ?side1 ?side2 ?side3 ?side4 A2.out).mono ?_); (case side1 => repeat (first | exact (Kd.C_below HR0_2.out HB.out) | (with_reducible refine Kd.C_alloc ?_ _) | (with_reducible refine Kd.C_drewN ?_ _) | (with_reducible refine Kd.C_drew ?_))); (case side2 => exact HC0_2.out); (case side3 => repeat (first | exact (Kd.C_below HR0_3.out HB.out) | (with_reducible refine Kd.C_alloc ?_ _) | (with_reducible refine Kd.C_drewN ?_ _) | (with_reducible refine Kd.C_drew ?_))); (case side4 => exact HC0_3.out); rintro e w6 ⟨rfl, hb⟩; refine ⟨_, rfl, ?_⟩; have n0_ := Aside0.mk (blk_below (g := gb889) (o := .cells #[.int .i64 a0_0, .int .i64 a0_1, .slice A0_2 l0_2.length c0_2, .slice A0_3 l0_3.length c0_3] 25 (0, 0)) (by (with_reducible repeat (first | refine blk_drewN ?_ _ | refine blk_drew ?_ | refine blk_alloc ?_ _)); exact BK889.out) hb); have n1_ := Aside0.mk (below_step (by repeat (first | (with_reducible first | exact HB.out | apply below_alloc | apply pw_below_drewN | apply below_drew1 | refine below_set ?_ GE889.out) | exact HB.out)) hb); clear BK889; clear HB; have BK889 := n0_; have HB := n1_; clear n0_ n1_; (try clear hb); (try clear hb2); (try clear hk); (try clear hi)))
  go_ret
  exact ⟨by first | rfl | (simp [errW_none, errW_some] <;> rfl) | (simp [*, errW_none, errW_some] <;> rfl), by repeat (first | (with_reducible first | exact HB.out | apply below_alloc | apply pw_below_drewN | apply below_drew1 | refine below_set ?_ GE889.out) | exact HB.out)⟩
 ·rw [if_neg c3] at H
  have c3b0 : decide (t890 < 0) = false := decide_eq_false c3
  clear c3
  replace H := Option.bind_eq_some_iff.mp H
  obtain ⟨⟨t891, t892, t893, t896⟩, A70, H⟩ := H
  replace H : ((spec_IsEmpty.f k t891 t892 t893 t896).bind fun bt899 => ((laws_toRelation.f k a0_0 a0_1 l0_2 l0_3).bind fun bt901 => ((impl_IsEmpty.f k bt901.1 bt901.2.1 bt901.2.2.1 bt901.2.2.2).bind fun bt910 => (if (bt910.1 != bt899.1) = true then (laws_FnExactIsEmpty.j0 k true a0_0 a0_1 l0_2 l0_3 bt901.1 bt901.2.1 bt901.2.2.1 bt901.2.2.2) else (laws_FnExactIsEmpty.j0 k (bt910.2 != bt899.2) a0_0 a0_1 l0_2 l0_3 bt901.1 bt901.2.1 bt901.2.2.1 bt901.2.2.2))))) = some r := H
  have A7 := Aside0.mk A70
  clear A70
  replace H := Option.bind_eq_some_iff.mp H
  obtain ⟨⟨t899, t900⟩, A80, H⟩ := H
  replace H : ((laws_toRelation.f k a0_0 a0_1 l0_2 l0_3).bind fun bt901 => ((impl_IsEmpty.f k bt901.1 bt901.2.1 bt901.2.2.1 bt901.2.2.2).bind fun bt910 => (if (bt910.1 != t899) = true then (laws_FnExactIsEmpty.j0 k true a0_0 a0_1 l0_2 l0_3 bt901.1 bt901.2.1 bt901.2.2.1 bt901.2.2.2) else (laws_FnExactIsEmpty.j0 k (bt910.2 != t900) a0_0 a0_1 l0_2 l0_3 bt901.1 bt901.2.1 bt901.2.2.1 bt901.2.2.2)))) = some r := H
  have A8 := Aside0.mk A80
  clear A80
  replace H := Option.bind_eq_some_iff.mp H
  obtain ⟨⟨t901, t902, t903, t906⟩, A90, H⟩ := H
  replace H : ((impl_IsEmpty.f k t901 t902 t903 t906).bind fun bt910 => (if (bt910.1 != t899) = true then (laws_FnExactIsEmpty.j0 k true a0_0 a0_1 l0_2 l0_3 t901 t902 t903 t906) else (laws_FnExactIsEmpty.j0 k (bt910.2 != t900) a0_0 a0_1 l0_2 l0_3 t901 t902 t903 t906))) = some r := H
  have A9 := Aside0.mk A90
  clear A90
  replace H := Option.bind_eq_some_iff.mp H
  obtain ⟨⟨t910, t911⟩, A100, H⟩ := H
  replace H : (if (t910 != t899) = true then (laws_FnExactIsEmpty.j0 k true a0_0 a0_1 l0_2 l0_3 t901 t902 t903 t906) else (laws_FnExactIsEmpty.j0 k (t911 != t900) a0_0 a0_1 l0_2 l0_3 t901 t902 t903 t906)) = some r := H
  have A10 := Aside0.mk A100
  clear A100
  have HC11 := Aside0.mk H
  clear H
  go_enter Tryd.func13, Tryd.ntmps13
  go_upto_region 8 with (first | ((with_reducible refine gate_dst (N := 1) rfl ?_); refine box_event ?hg (N := 1) ?hd (cs := #[.int .i64 a0_0, .int .i64 a0_1, .slice A0_2 l0_2.length c0_2, .slice A0_3 l0_3.length c0_3]) (t := 25) ?hr ?_; (case hd => rfl); (case hg => rfl); (case hr => first | (go_simp; done) | (go_simp; rfl)); intro gb889 hg w12 hbox hb; have n0_ := Aside0.mk (below_step (by repeat (first | (with_reducible first | exact HB.out | apply below_alloc | apply pw_below_drewN | apply below_drew1) | exact HB.out)) hb); have n1_ := Aside0.mk (hbox); have n2_ := Aside0.mk ((by rw [hg]; exact (below_size (by repeat (first | (with_reducible first | exact HB.out | apply below_alloc | apply pw_below_drewN | apply below_drew1) | exact HB.out))) : w.heap.size ≤ gb889)); have n3_ := Aside0.mk ((by rw [hg]; exact (below_size (by repeat (first | (with_reducible first | exact HB.out | apply below_alloc | apply pw_below_drewN | apply below_drew1) | exact HB.out))) : w.heap.size ≤ gb889)); clear HB; have HB := n0_; have BK889 := n1_; have GW889 := n2_; have GE889 := n3_; clear n0_ n1_ n2_ n3_; clear hb hbox hg; have hcz13_0 : w12.cell? ⟨gb889, 0, none⟩ = some (.int .i64 a0_0) := (blk_cell BK889.out 0).trans rfl; have hcz13_1 : w12.cell? ⟨gb889, 1, none⟩ = some (.int .i64 a0_1) := (blk_cell BK889.out 1).trans rfl; have hcz13_2 : w12.cell? ⟨gb889, 2, none⟩ = some (.slice A0_2 l0_2.length c0_2) := (blk_cell BK889.out 2).trans rfl; have hcz13_3 : w12.cell? ⟨gb889, 3, none⟩ = some (.slice A0_3 l0_3.length c0_3) := (blk_cell BK889.out 3).trans rfl; have hfz13_0 := blk_frozen BK889.out 0; have hfz13_1 := blk_frozen BK889.out 1; have hfz13_2 := blk_frozen BK889.out 2; have hfz13_3 := blk_frozen BK889.out 3) | ((with_reducible refine gate_callee (f := 14) rfl ?_); refine goesL_ (some 11) rfl rfl Tryd.func14 (by kernel_rfl) rfl #[.agg #[.int .i64 a0_0, .int .i64 a0_1, .slice A0_2 l0_2.length c0_2, .slice A0_3 l0_3.length c0_3], .int .i64 1048576] rfl (by (try simp only [List.map_toArray, List.map_cons, List.map_nil]); first | done | rfl | (simp only [List.length_drop, List.length_take]; rfl)) ?_; (with_reducible refine (laws_szRelation.calls k a0_0 a0_1 _ _ l0_2 _ _ l0_3 1048576 t890 _ ?side1 ?side2 ?side3 ?side4 A2.out).mono ?_); (case side1 => repeat (first | exact (Kd.C_below HR0_2.out HB.out) | (with_reducible refine Kd.C_alloc ?_ _) | (with_reducible refine Kd.C_drewN ?_ _) | (with_reducible refine Kd.C_drew ?_))); (case side2 => exact HC0_2.out); (case side3 => repeat (first | exact (Kd.C_below HR0_3.out HB.out) | (with_reducible refine Kd.C_alloc ?_ _) | (with_reducible refine Kd.C_drewN ?_ _) | (with_reducible refine Kd.C_drew ?_))); (case side4 => exact HC0_3.out); rintro e w14 ⟨rfl, hb⟩; refine ⟨_, rfl, ?_⟩; have n0_ := Aside0.mk (blk_below (g := gb889) (o := .cells #[.int .i64 a0_0, .int .i64 a0_1, .slice A0_2 l0_2.length c0_2, .slice A0_3 l0_3.length c0_3] 25 (0, 0)) (by (with_reducible repeat (first | refine blk_drewN ?_ _ | refine blk_drew ?_ | refine blk_alloc ?_ _)); exact BK889.out) hb); have n1_ := Aside0.mk (below_step (by repeat (first | (with_reducible first | exact HB.out | apply below_alloc | apply pw_below_drewN | apply below_drew1 | refine below_set ?_ GE889.out) | exact HB.out)) hb); clear BK889; clear HB; have BK889 := n0_; have HB := n1_; clear n0_ n1_; (try clear hb); (try clear hb2); (try clear hk); (try clear hi); have hcz15_0 : w14.cell? ⟨gb889, 0, none⟩ = some (.int .i64 a0_0) := (blk_cell BK889.out 0).trans rfl; have hcz15_1 : w14.cell? ⟨gb889, 1, none⟩ = some (.int .i64 a0_1) := (blk_cell BK889.out 1).trans rfl; have hcz15_2 : w14.cell? ⟨gb889, 2, none⟩ = some (.slice A0_2 l0_2.length c0_2) := (blk_cell BK889.out 2).trans rfl; have hcz15_3 : w14.cell? ⟨gb889, 3, none⟩ = some (.slice A0_3 l0_3.length c0_3) := (blk_cell BK889.out 3).trans rfl; have hfz15_0 := blk_frozen BK889.out 0; have hfz15_1 := blk_frozen BK889.out 1; have hfz15_2 := blk_frozen BK889.out 2; have hfz15_3 := blk_frozen BK889.out 3) | ((with_reducible refine gate_callee (f := 16) rfl ?_); refine goesL_ (some 16) rfl rfl Tryd.func16 (by kernel_rfl) rfl #[.agg #[.int .i64 a0_0, .int .i64 a0_1, .slice A0_2 l0_2.length c0_2, .slice A0_3 l0_3.length c0_3]] rfl (by (try simp only [List.map_toArray, List.map_cons, List.map_nil]); first | done | rfl | (simp only [List.length_drop, List.length_take]; rfl)) ?_; (with_reducible refine (laws_toRelation.calls k a0_0 a0_1 _ _ l0_2 _ _ l0_3 t891 t892 t893 t896 _ ?side1 ?side2 ?side3 ?side4 A7.out).mono ?_); (case side1 => repeat (first | exact (Kd.C_below HR0_2.out HB.out) | (with_reducible refine Kd.C_alloc ?_ _) | (with_reducible refine Kd.C_drewN ?_ _) | (with_reducible refine Kd.C_drew ?_))); (case side2 => exact HC0_2.out); (case side3 => repeat (first | exact (Kd.C_below HR0_3.out HB.out) | (with_reducible refine Kd.C_alloc ?_ _) | (with_reducible refine Kd.C_drewN ?_ _) | (with_reducible refine Kd.C_drew ?_))); (case side4 => exact HC0_3.out); rintro e w16 ⟨v894, v897, rfl, ho0, ho1, hb⟩; refine ⟨_, rfl, ?_⟩; have n0_ := Aside0.mk (Kd.R_lower ho0 (below_size (by repeat (first | (with_reducible first | exact HB.out | apply below_alloc | apply pw_below_drewN | apply below_drew1 | refine below_set ?_ GE889.out) | exact HB.out)))); have n1_ := Aside0.mk (Kd.S_lower ho1 (below_size (by repeat (first | (with_reducible first | exact HB.out | apply below_alloc | apply pw_below_drewN | apply below_drew1 | refine below_set ?_ GE889.out) | exact HB.out)))); have n2_ := Aside0.mk (blk_below (g := gb889) (o := .cells #[.int .i64 a0_0, .int .i64 a0_1, .slice A0_2 l0_2.length c0_2, .slice A0_3 l0_3.length c0_3] 25 (0, 0)) (by (with_reducible repeat (first | refine blk_drewN ?_ _ | refine blk_drew ?_ | refine blk_alloc ?_ _)); exact BK889.out) hb); have n3_ := Aside0.mk (below_step (by repeat (first | (with_reducible first | exact HB.out | apply below_alloc | apply pw_below_drewN | apply below_drew1 | refine below_set ?_ GE889.out) | exact HB.out)) hb); clear BK889; clear HB; have HO895 := n0_; have HO898 := n1_; have BK889 := n2_; have HB := n3_; clear n0_ n1_ n2_ n3_; (try clear hb); (try clear hb2); (try clear hk); (try clear hi); (try clear ho0); (try clear ho1); obtain ⟨Ao17, co17, eo17⟩ := Kd.R_slice HO895.out; subst eo17; obtain ⟨Ao18, co18, eo18⟩ := Kd.S_slice HO898.out; subst eo18) | ((with_reducible refine gate_callee (f := 42) rfl ?_); refine goesL_ (some 17) rfl rfl Tryd.func42 (by kernel_rfl) rfl #[.agg #[.int .i64 t891, .int .i64 t892, .slice Ao17 t893.length co17, .slice Ao18 t896.length co18]] rfl (by (try simp only [List.map_toArray, List.map_cons, List.map_nil]); first | done | rfl | (simp only [List.length_drop, List.length_take]; rfl)) ?_; (with_reducible refine (spec_IsEmpty.calls k t891 t892 _ _ t893 _ _ t896 t899 t900 _ ?side1 ?side2 ?side3 ?side4 A8.out).mono ?_); (case side1 => repeat (first | exact (Kd.R_reads' HO895.out).2.2 | (with_reducible refine Kd.C_alloc ?_ _) | (with_reducible refine Kd.C_drewN ?_ _) | (with_reducible refine Kd.C_drew ?_))); (case side2 => exact (Kd.R_reads' HO895.out).2.1); (case side3 => repeat (first | exact (Kd.S_reads' HO898.out).2.2 | (with_reducible refine Kd.C_alloc ?_ _) | (with_reducible refine Kd.C_drewN ?_ _) | (with_reducible refine Kd.C_drew ?_))); (case side4 => exact (Kd.S_reads' HO898.out).2.1); rintro e w19 ⟨rfl, hb⟩; refine ⟨_, rfl, ?_⟩; have n0_ := Aside0.mk (Kd.R_below (by (with_reducible repeat (first | apply Kd.R_alloc | apply Kd.R_drewN | apply Kd.R_drew)); exact HO895.out) hb); have n1_ := Aside0.mk (Kd.S_below (by (with_reducible repeat (first | apply Kd.S_alloc | apply Kd.S_drewN | apply Kd.S_drew)); exact HO898.out) hb); have n2_ := Aside0.mk (blk_below (g := gb889) (o := .cells #[.int .i64 a0_0, .int .i64 a0_1, .slice A0_2 l0_2.length c0_2, .slice A0_3 l0_3.length c0_3] 25 (0, 0)) (by (with_reducible repeat (first | refine blk_drewN ?_ _ | refine blk_drew ?_ | refine blk_alloc ?_ _)); exact BK889.out) hb); have n3_ := Aside0.mk (below_step (by repeat (first | (with_reducible first | exact HB.out | apply below_alloc | apply pw_below_drewN | apply below_drew1 | refine below_set ?_ GE889.out) | exact HB.out)) hb); clear HO895; clear HO898; clear BK889; clear HB; have HO895 := n0_; have HO898 := n1_; have BK889 := n2_; have HB := n3_; clear n0_ n1_ n2_ n3_; (try clear hb); (try clear hb2); (try clear hk); (try clear hi); have hcz20_0 : w19.cell? ⟨gb889, 0, none⟩ = some (.int .i64 a0_0) := (blk_cell BK889.out 0).trans rfl; have hcz20_1 : w19.cell? ⟨gb889, 1, none⟩ = some (.int .i64 a0_1) := (blk_cell BK889.out 1).trans rfl; have hcz20_2 : w19.cell? ⟨gb889, 2, none⟩ = some (.slice A0_2 l0_2.length c0_2) := (blk_cell BK889.out 2).trans rfl; have hcz20_3 : w19.cell? ⟨gb889, 3, none⟩ = some (.slice A0_3 l0_3.length c0_3) := (blk_cell BK889.out 3).trans rfl; have hfz20_0 := blk_frozen BK889.out 0; have hfz20_1 := blk_frozen BK889.out 1; have hfz20_2 := blk_frozen BK889.out 2; have hfz20_3 := blk_frozen BK889.out 3) | ((with_reducible refine gate_callee (f := 16) rfl ?_); refine goesL_ (some 21) rfl rfl Tryd.func16 (by kernel_rfl) rfl #[.agg #[.int .i64 a0_0, .int .i64 a0_1, .slice A0_2 l0_2.length c0_2, .slice A0_3 l0_3.length c0_3]] rfl (by (try simp only [List.map_toArray, List.map_cons, List.map_nil]); first | done | rfl | (simp only [List.length_drop, List.length_take]; rfl)) ?_; (with_reducible refine (laws_toRelation.calls k a0_0 a0_1 _ _ l0_2 _ _ l0_3 t901 t902 t903 t906 _ ?side1 ?side2 ?side3 ?side4 A9.out).mono ?_); (case side1 => repeat (first | exact (Kd.C_below HR0_2.out HB.out) | (with_reducible refine Kd.C_alloc ?_ _) | (with_reducible refine Kd.C_drewN ?_ _) | (with_reducible refine Kd.C_drew ?_))); (case side2 => exact HC0_2.out); (case side3 => repeat (first | exact (Kd.C_below HR0_3.out HB.out) | (with_reducible refine Kd.C_alloc ?_ _) | (with_reducible refine Kd.C_drewN ?_ _) | (with_reducible refine Kd.C_drew ?_))); (case side4 => exact HC0_3.out); rintro e w21 ⟨v904, v907, rfl, ho0, ho1, hb⟩; refine ⟨_, rfl, ?_⟩; have n0_ := Aside0.mk (Kd.R_elder' (by (with_reducible repeat (first | apply Kd.R_alloc | apply Kd.R_drewN | apply Kd.R_drew)); exact HO895.out) (Kd.R_base ho0) hb); have n1_ := Aside0.mk (Kd.S_elder' (by (with_reducible repeat (first | apply Kd.S_alloc | apply Kd.S_drewN | apply Kd.S_drew)); exact HO898.out) (Kd.S_base ho1) hb); have n2_ := Aside0.mk (Kd.R_lower (Kd.R_new' ho0 (Kd.R_lt (by (with_reducible repeat (first | apply Kd.R_alloc | apply Kd.R_drewN | apply Kd.R_drew)); exact HO895.out))) (below_size (by repeat (first | (with_reducible first | exact HB.out | apply below_alloc | apply pw_below_drewN | apply below_drew1 | refine below_set ?_ GE889.out) | exact HB.out)))); have n3_ := Aside0.mk (Kd.S_lower (Kd.S_new' ho1 (Kd.S_lt (by (with_reducible repeat (first | apply Kd.S_alloc | apply Kd.S_drewN | apply Kd.S_drew)); exact HO898.out))) (below_size (by repeat (first | (with_reducible first | exact HB.out | apply below_alloc | apply pw_below_drewN | apply below_drew1 | refine below_set ?_ GE889.out) | exact HB.out)))); have n4_ := Aside0.mk (blk_below (g := gb889) (o := .cells #[.int .i64 a0_0, .int .i64 a0_1, .slice A0_2 l0_2.length c0_2, .slice A0_3 l0_3.length c0_3] 25 (0, 0)) (by (with_reducible repeat (first | refine blk_drewN ?_ _ | refine blk_drew ?_ | refine blk_alloc ?_ _)); exact BK889.out) hb); have n5_ := Aside0.mk (below_step (by repeat (first | (with_reducible first | exact HB.out | apply below_alloc | apply pw_below_drewN | apply below_drew1 | refine below_set ?_ GE889.out) | exact HB.out)) hb); clear HO895; clear HO898; clear BK889; clear HB; have HO895 := n0_; have HO898 := n1_; have HO905 := n2_; have HO908 := n3_; have BK889 := n4_; have HB := n5_; clear n0_ n1_ n2_ n3_ n4_ n5_; (try clear hb); (try clear hb2); (try clear hk); (try clear hi); (try clear ho0); (try clear ho1)) | ((with_reducible refine gate_dst (N := 6) rfl ?_); refine box_event ?hg (N := 6) ?hd (cs := #[.int .i64 0, .int .i64 0, .slice none 0 0, .slice none 0 0]) (t := 28) ?hr ?_; (case hd => rfl); (case hg => rfl); (case hr => first | (go_simp; done) | (go_simp; rfl)); intro gb909 hg w22 hbox hb; have n0_ := Aside0.mk (Kd.R_below (by (with_reducible repeat (first | apply Kd.R_alloc | apply Kd.R_drewN | apply Kd.R_drew)); exact HO895.out) hb); have n1_ := Aside0.mk (Kd.S_below (by (with_reducible repeat (first | apply Kd.S_alloc | apply Kd.S_drewN | apply Kd.S_drew)); exact HO898.out) hb); have n2_ := Aside0.mk (Kd.R_below (by (with_reducible repeat (first | apply Kd.R_alloc | apply Kd.R_drewN | apply Kd.R_drew)); exact HO905.out) hb); have n3_ := Aside0.mk (Kd.S_below (by (with_reducible repeat (first | apply Kd.S_alloc | apply Kd.S_drewN | apply Kd.S_drew)); exact HO908.out) hb); have n4_ := Aside0.mk (blk_below (g := gb889) (o := .cells #[.int .i64 a0_0, .int .i64 a0_1, .slice A0_2 l0_2.length c0_2, .slice A0_3 l0_3.length c0_3] 25 (0, 0)) (by (with_reducible repeat (first | refine blk_drewN ?_ _ | refine blk_drew ?_ | refine blk_alloc ?_ _)); exact BK889.out) hb); have n5_ := Aside0.mk (below_step (by repeat (first | (with_reducible first | exact HB.out | apply below_alloc | apply pw_below_drewN | apply below_drew1 | refine below_set ?_ GE889.out) | exact HB.out)) hb); have n6_ := Aside0.mk (hbox); have n7_ := Aside0.mk ((by rw [hg]; exact (below_size (by repeat (first | (with_reducible first | exact HB.out | apply below_alloc | apply pw_below_drewN | apply below_drew1 | refine below_set ?_ GE889.out) | exact HB.out))) : w.heap.size ≤ gb909)); have n8_ := Aside0.mk ((by rw [hg]; exact (below_size (by repeat (first | (with_reducible first | exact HB.out | apply below_alloc | apply pw_below_drewN | apply below_drew1 | refine below_set ?_ GE889.out) | exact HB.out))) : w.heap.size ≤ gb909)); have n9_ := Aside0.mk ((by rw [hg]; exact Nat.ne_of_lt (blk_lt (g := gb889) (o := .cells #[.int .i64 a0_0, .int .i64 a0_1, .slice A0_2 l0_2.length c0_2, .slice A0_3 l0_3.length c0_3] 25 (0, 0)) (by (with_reducible repeat (first | refine blk_drewN ?_ _ | refine blk_drew ?_ | refine blk_alloc ?_ _)); exact BK889.out)) : gb889 ≠ gb909)); have n10_ := Aside0.mk ((by rw [hg]; exact Nat.ne_of_gt (blk_lt (g := gb889) (o := .cells #[.int .i64 a0_0, .int .i64 a0_1, .slice A0_2 l0_2.length c0_2, .slice A0_3 l0_3.length c0_3] 25 (0, 0)) (by (with_reducible repeat (first | refine blk_drewN ?_ _ | refine blk_drew ?_ | refine blk_alloc ?_ _)); exact BK889.out)) : gb909 ≠ gb889)); clear HO895; clear HO898; clear HO905; clear HO908; clear BK889; clear HB; have HO895 := n0_; have HO898 := n1_; have HO905 := n2_; have HO908 := n3_; have BK889 := n4_; have HB := n5_; have BK909 := n6_; have GW909 := n7_; have GE909 := n8_; have NB889_909 := n9_; have NB909_889 := n10_; clear n0_ n1_ n2_ n3_ n4_ n5_ n6_ n7_ n8_ n9_ n10_; clear hb hbox hg; have hnb23 := NB909_889.out; have hnc23 := NB889_909.out; have hcz24_0 : w22.cell? ⟨gb909, 0, none⟩ = some (.int .i64 0) := (blk_cell BK909.out 0).trans rfl; have hcz24_1 : w22.cell? ⟨gb909, 1, none⟩ = some (.int .i64 0) := (blk_cell BK909.out 1).trans rfl; have hcz24_2 : w22.cell? ⟨gb909, 2, none⟩ = some (.slice none 0 0) := (blk_cell BK909.out 2).trans rfl; have hcz24_3 : w22.cell? ⟨gb909, 3, none⟩ = some (.slice none 0 0) := (blk_cell BK909.out 3).trans rfl; have hfz24_0 := blk_frozen BK909.out 0; have hfz24_1 := blk_frozen BK909.out 1; have hfz24_2 := blk_frozen BK909.out 2; have hfz24_3 := blk_frozen BK909.out 3; obtain ⟨Ao25, co25, eo25⟩ := Kd.R_slice HO905.out; subst eo25; obtain ⟨Ao26, co26, eo26⟩ := Kd.S_slice HO908.out; subst eo26) | ((with_reducible refine gate_callee (f := 43) rfl ?_); refine goesL_ (some 24) rfl rfl Tryd.func43 (by kernel_rfl) rfl #[.agg #[.int .i64 t901, .int .i64 t902, .slice Ao25 t903.length co25, .slice Ao26 t906.length co26]] rfl (by (try simp only [List.map_toArray, List.map_cons, List.map_nil]); first | done | rfl | (simp only [List.length_drop, List.length_take]; rfl)) ?_; (with_reducible refine (impl_IsEmpty.calls k t901 t902 _ _ t903 _ _ t906 t910 t911 _ (tab_below HTab.out (by repeat (first | (with_reducible first | exact HB.out | apply below_alloc | apply pw_below_drewN | apply below_drew1 | refine below_set ?_ GE889.out | refine below_set ?_ GE909.out) | exact HB.out | exact Below.refl _ _))) ?side1 ?side2 ?side3 ?side4 A10.out).mono ?_); (case side1 => refine (Kd.R_reads' (e := 4) (base := w.heap.size) (ok := fun k_ => (True ∧ some k_ ≠ (.slice Ao17 t893.length co17 : Value).ownBlock)) (n := t903.length) (c := co25) ?_).2.2; exact (by (with_reducible repeat (first | apply Kd.R_alloc | apply Kd.R_drewN | apply Kd.R_drew)); exact (Kd.R_mono (Kd.R_far (p := ⟨gb909, 3, none⟩) (Kd.R_far (p := ⟨gb909, 2, none⟩) (Kd.R_far (p := ⟨gb909, 1, none⟩) (Kd.R_far (p := ⟨gb909, 0, none⟩) (Kd.R_types HO905.out BK909.out (by decide)) (fun _ hk => hk.2) (.int .i64 t901)) (fun _ hk => hk.2) (.int .i64 t902)) (fun _ hk => hk.2) (.slice Ao25 t903.length co25)) (fun _ hk => hk.2) (.slice Ao26 t906.length co26)) (fun _ h_ => h_.1)))); (case side2 => exact (Kd.R_reads' HO905.out).2.1); (case side3 => refine (Kd.S_reads' (e := 55) (base := w.heap.size) (ok := fun k_ => (True ∧ some k_ ≠ (.slice Ao18 t896.length co18 : Value).ownBlock)) (n := t906.length) (c := co26) ?_).2.2; exact (by (with_reducible repeat (first | apply Kd.S_alloc | apply Kd.S_drewN | apply Kd.S_drew)); exact (Kd.S_mono (Kd.S_far (p := ⟨gb909, 3, none⟩) (Kd.S_far (p := ⟨gb909, 2, none⟩) (Kd.S_far (p := ⟨gb909, 1, none⟩) (Kd.S_far (p := ⟨gb909, 0, none⟩) (Kd.S_types HO908.out BK909.out (by decide)) (fun _ hk => hk.2) (.int .i64 t901)) (fun _ hk => hk.2) (.int .i64 t902)) (fun _ hk => hk.2) (.slice Ao25 t903.length co25)) (fun _ hk => hk.2) (.slice Ao26 t906.length co26)) (fun _ h_ => h_.1)))); (case side4 => exact (Kd.S_reads' HO908.out).2.1); rintro e w27 ⟨rfl, hb⟩; refine ⟨_, rfl, ?_⟩; have n0_ := Aside0.mk (Kd.R_below (by (with_reducible repeat (first | apply Kd.R_alloc | apply Kd.R_drewN | apply Kd.R_drew)); exact (Kd.R_mono (Kd.R_far (p := ⟨gb909, 3, none⟩) (Kd.R_far (p := ⟨gb909, 2, none⟩) (Kd.R_far (p := ⟨gb909, 1, none⟩) (Kd.R_far (p := ⟨gb909, 0, none⟩) (Kd.R_types HO895.out BK909.out (by decide)) (fun _ hk => hk.2) (.int .i64 t901)) (fun _ hk => hk.2) (.int .i64 t902)) (fun _ hk => hk.2) (.slice Ao25 t903.length co25)) (fun _ hk => hk.2) (.slice Ao26 t906.length co26)) (fun _ h_ => h_.1))) hb); have n1_ := Aside0.mk (Kd.S_below (by (with_reducible repeat (first | apply Kd.S_alloc | apply Kd.S_drewN | apply Kd.S_drew)); exact (Kd.S_mono (Kd.S_far (p := ⟨gb909, 3, none⟩) (Kd.S_far (p := ⟨gb909, 2, none⟩) (Kd.S_far (p := ⟨gb909, 1, none⟩) (Kd.S_far (p := ⟨gb909, 0, none⟩) (Kd.S_types HO898.out BK909.out (by decide)) (fun _ hk => hk.2) (.int .i64 t901)) (fun _ hk => hk.2) (.int .i64 t902)) (fun _ hk => hk.2) (.slice Ao25 t903.length co25)) (fun _ hk => hk.2) (.slice Ao26 t906.length co26)) (fun _ h_ => h_.1))) hb); have n2_ := Aside0.mk (Kd.R_below (by (with_reducible repeat (first | apply Kd.R_alloc | apply Kd.R_drewN | apply Kd.R_drew)); exact (Kd.R_mono (Kd.R_far (p := ⟨gb909, 3, none⟩) (Kd.R_far (p := ⟨gb909, 2, none⟩) (Kd.R_far (p := ⟨gb909, 1, none⟩) (Kd.R_far (p := ⟨gb909, 0, none⟩) (Kd.R_types HO905.out BK909.out (by decide)) (fun _ hk => hk.2) (.int .i64 t901)) (fun _ hk => hk.2) (.int .i64 t902)) (fun _ hk => hk.2) (.slice Ao25 t903.length co25)) (fun _ hk => hk.2) (.slice Ao26 t906.length co26)) (fun _ h_ => h_.1))) hb); have n3_ := Aside0.mk (Kd.S_below (by (with_reducible repeat (first | apply Kd.S_alloc | apply Kd.S_drewN | apply Kd.S_drew)); exact (Kd.S_mono (Kd.S_far (p := ⟨gb909, 3, none⟩) (Kd.S_far (p := ⟨gb909, 2, none⟩) (Kd.S_far (p := ⟨gb909, 1, none⟩) (Kd.S_far (p := ⟨gb909, 0, none⟩) (Kd.S_types HO908.out BK909.out (by decide)) (fun _ hk => hk.2) (.int .i64 t901)) (fun _ hk => hk.2) (.int .i64 t902)) (fun _ hk => hk.2) (.slice Ao25 t903.length co25)) (fun _ hk => hk.2) (.slice Ao26 t906.length co26)) (fun _ h_ => h_.1))) hb); have n4_ := Aside0.mk (blk_below (g := gb889) (o := .cells #[.int .i64 a0_0, .int .i64 a0_1, .slice A0_2 l0_2.length c0_2, .slice A0_3 l0_3.length c0_3] 25 (0, 0)) (by (with_reducible repeat (first | refine blk_drewN ?_ _ | refine blk_drew ?_ | refine blk_alloc ?_ _)); refine blk_far ?_ NB889_909.out _; (with_reducible repeat (first | refine blk_drewN ?_ _ | refine blk_drew ?_ | refine blk_alloc ?_ _)); refine blk_far ?_ NB889_909.out _; (with_reducible repeat (first | refine blk_drewN ?_ _ | refine blk_drew ?_ | refine blk_alloc ?_ _)); refine blk_far ?_ NB889_909.out _; (with_reducible repeat (first | refine blk_drewN ?_ _ | refine blk_drew ?_ | refine blk_alloc ?_ _)); refine blk_far ?_ NB889_909.out _; (with_reducible repeat (first | refine blk_drewN ?_ _ | refine blk_drew ?_ | refine blk_alloc ?_ _)); exact BK889.out) hb); have n5_ := Aside0.mk (blk_below (g := gb909) (o := .cells #[.int .i64 t901, .int .i64 t902, .slice Ao25 t903.length co25, .slice Ao26 t906.length co26] 28 (0, 0)) (by (with_reducible repeat (first | refine blk_drewN ?_ _ | refine blk_drew ?_ | refine blk_alloc ?_ _)); refine blk_put (cs := #[.int .i64 t901, .int .i64 t902, .slice Ao25 t903.length co25, .slice none 0 0]) ?_ 3 _ rfl; (with_reducible repeat (first | refine blk_drewN ?_ _ | refine blk_drew ?_ | refine blk_alloc ?_ _)); refine blk_put (cs := #[.int .i64 t901, .int .i64 t902, .slice none 0 0, .slice none 0 0]) ?_ 2 _ rfl; (with_reducible repeat (first | refine blk_drewN ?_ _ | refine blk_drew ?_ | refine blk_alloc ?_ _)); refine blk_put (cs := #[.int .i64 t901, .int .i64 0, .slice none 0 0, .slice none 0 0]) ?_ 1 _ rfl; (with_reducible repeat (first | refine blk_drewN ?_ _ | refine blk_drew ?_ | refine blk_alloc ?_ _)); refine blk_put (cs := #[.int .i64 0, .int .i64 0, .slice none 0 0, .slice none 0 0]) ?_ 0 _ rfl; (with_reducible repeat (first | refine blk_drewN ?_ _ | refine blk_drew ?_ | refine blk_alloc ?_ _)); exact BK909.out) hb); have n6_ := Aside0.mk (below_step (by repeat (first | (with_reducible first | exact HB.out | apply below_alloc | apply pw_below_drewN | apply below_drew1 | refine below_set ?_ GE889.out | refine below_set ?_ GE909.out) | exact HB.out)) hb); clear HO895; clear HO898; clear HO905; clear HO908; clear BK889; clear BK909; clear HB; have HO895 := n0_; have HO898 := n1_; have HO905 := n2_; have HO908 := n3_; have BK889 := n4_; have BK909 := n5_; have HB := n6_; clear n0_ n1_ n2_ n3_ n4_ n5_ n6_; (try clear hb); (try clear hb2); (try clear hk); (try clear hi)))
  (try simp only [Act.put, List.setIfInBounds_toArray, List.set_cons_zero, List.set_cons_succ])
  go_cut [34] (fun v34 wc => ∃ (kq : Nat) (x34_10 : Bool), v34 = .bool x34_10 ∧ Aside0 (laws_FnExactIsEmpty.j0 kq x34_10 a0_0 a0_1 l0_2 l0_3 t901 t902 t903 t906 = some r) ∧ Aside0 (kq ≤ k) ∧ Aside0 (Kd.R Kd.bool 4 wc w.heap.size (fun _ => True) (.slice Ao25 t903.length co25) t903) ∧ Aside0 (Kd.S (Kd.slice 2 (Kd.int .i64)) 55 wc w.heap.size (fun _ => True) (.slice Ao26 t906.length co26) t906) ∧ Aside0 (wc.heap[gb889]? = some (.cells #[.int .i64 a0_0, .int .i64 a0_1, (.slice A0_2 l0_2.length c0_2), (.slice A0_3 l0_3.length c0_3)] 25 (0, 0))) ∧ Aside0 (wc.heap[gb909]? = some (.cells #[.int .i64 t901, .int .i64 t902, (.slice Ao25 t903.length co25), (.slice Ao26 t906.length co26)] 28 (0, 0))) ∧ Aside0 (Below w.heap.size w wc))
  case first =>
   have H := HC11.out
   clear HC11
   by_cases c28 : (t910 != t899) = true
   ·rw [if_pos c28] at H
    have c28b0 : (t910 != t899) = true := c28
    (try (have c28b1 : decide (t910 = t899) = false := by simpa using c28))
    (try (have c28b2 : (t910 == t899) = false := by simpa using c28))
    (try (have c28b3 : ¬ (t910 = t899) := by simpa using c28))
    clear c28
    (first | rw [c28b0] | (simp only [i64_w, i32_w]; rw [c28b0]) | skip)
    have H' := Aside0.mk H
    clear H
    go_wp2
    go_meet
    case rel => exact ⟨_, (true), (by first | rfl | (simp; done) | (simp [*]; done)), H', ⟨by first | omega | exact Nat.le_refl _⟩, ⟨by (with_reducible repeat (first | apply Kd.R_alloc | apply Kd.R_drewN | apply Kd.R_drew)); exact Kd.R_mono HO905.out (fun _ hk => trivial)⟩, ⟨by (with_reducible repeat (first | apply Kd.S_alloc | apply Kd.S_drewN | apply Kd.S_drew)); exact Kd.S_mono HO908.out (fun _ hk => trivial)⟩, ⟨by (with_reducible repeat (first | refine blk_drewN ?_ _ | refine blk_drew ?_ | refine blk_alloc ?_ _)); exact BK889.out⟩, ⟨by (with_reducible repeat (first | refine blk_drewN ?_ _ | refine blk_drew ?_ | refine blk_alloc ?_ _)); exact BK909.out⟩, ⟨by repeat (first | (with_reducible first | exact HB.out | apply below_alloc | apply pw_below_drewN | apply below_drew1 | refine below_set ?_ GE889.out | refine below_set ?_ GE909.out) | exact HB.out)⟩⟩
   ·rw [if_neg c28] at H
    have c28b0 : (t910 != t899) = false := by simpa using c28
    (try (have c28b1 : decide (t910 = t899) = true := by simpa using c28))
    (try (have c28b2 : (t910 == t899) = true := by simpa using c28))
    clear c28
    (first | rw [c28b0] | (simp only [i64_w, i32_w]; rw [c28b0]) | skip)
    have H' := Aside0.mk H
    clear H
    go_wp2
    go_meet
    case rel => exact ⟨_, ((t911 != t900)), (by first | rfl | (simp; done) | (simp [*]; done)), H', ⟨by first | omega | exact Nat.le_refl _⟩, ⟨by (with_reducible repeat (first | apply Kd.R_alloc | apply Kd.R_drewN | apply Kd.R_drew)); exact Kd.R_mono HO905.out (fun _ hk => trivial)⟩, ⟨by (with_reducible repeat (first | apply Kd.S_alloc | apply Kd.S_drewN | apply Kd.S_drew)); exact Kd.S_mono HO908.out (fun _ hk => trivial)⟩, ⟨by (with_reducible repeat (first | refine blk_drewN ?_ _ | refine blk_drew ?_ | refine blk_alloc ?_ _)); exact BK889.out⟩, ⟨by (with_reducible repeat (first | refine blk_drewN ?_ _ | refine blk_drew ?_ | refine blk_alloc ?_ _)); exact BK909.out⟩, ⟨by repeat (first | (with_reducible first | exact HB.out | apply below_alloc | apply pw_below_drewN | apply below_drew1 | refine below_set ?_ GE889.out | refine below_set ?_ GE909.out) | exact HB.out)⟩⟩
  case rest =>
   clear HC11
   try clear c1
   try clear c2
   try clear p2
   try clear c3
   try clear c3b0
   try clear c4
   try clear c13
   try clear c14
   try clear c16
   try clear c23
   try clear c28
   try clear c28b0
   try clear c28b1
   try clear c28b2
   try clear hcz13_0
   try clear hcz13_1
   try clear hcz13_2
   try clear hcz13_3
   try clear hcz15_0
   try clear hcz15_1
   try clear hcz15_2
   try clear hcz15_3
   try clear hcz20_0
   try clear hcz20_1
   try clear hcz20_2
   try clear hcz20_3
   try clear hcz24_0
   try clear hcz24_1
   try clear hcz24_2
   try clear hcz24_3
   try clear hcz5_0
   try clear hcz5_1
   try clear hcz5_2
   try clear hcz5_3
   try clear hfz13_0
   try clear hfz13_1
   try clear hfz13_2
   try clear hfz13_3
   try clear hfz15_0
   try clear hfz15_1
   try clear hfz15_2
   try clear hfz15_3
   try clear hfz20_0
   try clear hfz20_1
   try clear hfz20_2
   try clear hfz20_3
   try clear hfz24_0
   try clear hfz24_1
   try clear hfz24_2
   try clear hfz24_3
   try clear hfz5_0
   try clear hfz5_1
   try clear hfz5_2
   try clear hfz5_3
   obtain ⟨kq, x34_10, rfl, HA, HJ10, HO_910002, HO_910003, BK889, BK909, HB⟩ := hcut
   cases kq with
   | zero => exact absurd HA.out (by simp [laws_FnExactIsEmpty.j0])
   | succ kj10 =>
    have H := HA.out
    clear HA
    simp only [laws_FnExactIsEmpty.j0] at H
    by_cases c29 : x34_10 = true
    ·subst c29
     have H1 : (some false) = some r := by rw [if_pos rfl] at H; exact H
     clear H
     have H := H1
     clear H1
     obtain rfl := Option.some.inj H
     go_wp2
     go_ret
     exact ⟨by first | rfl | (simp [errW_none, errW_some] <;> rfl) | (simp [*, errW_none, errW_some] <;> rfl), by repeat (first | (with_reducible first | exact HB.out | apply below_alloc | apply pw_below_drewN | apply below_drew1 | refine below_set ?_ GE889.out | refine below_set ?_ GE909.out) | exact HB.out)⟩
    ·replace c29 := Bool.eq_false_iff.mpr c29
     subst c29
     have H1 : ((laws_toRelation.f kj10 a0_0 a0_1 l0_2 l0_3).bind fun bt912 => ((laws_eqRelation.f kj10 t901 t902 t903 t906 bt912.1 bt912.2.1 bt912.2.2.1 bt912.2.2.2).bind fun t920 => (if t920 = true then (some true) else (some false)))) = some r := by rw [if_neg (show ¬ (false = true) by decide)] at H; exact H
     clear H
     have H := H1
     clear H1
     replace H := Option.bind_eq_some_iff.mp H
     obtain ⟨⟨t912, t913, t914, t917⟩, A300, H⟩ := H
     replace H : ((laws_eqRelation.f kj10 t901 t902 t903 t906 t912 t913 t914 t917).bind fun t920 => (if t920 = true then (some true) else (some false))) = some r := H
     have A30 := Aside0.mk A300
     clear A300
     replace H := Option.bind_eq_some_iff.mp H
     obtain ⟨t920, A310, H⟩ := H
     replace H : (if t920 = true then (some true) else (some false)) = some r := H
     have A31 := Aside0.mk A310
     clear A310
     by_cases c32 : t920 = true
     ·subst c32
      have H1 : (some true) = some r := by rw [if_pos rfl] at H; exact H
      clear H
      have H := H1
      clear H1
      obtain rfl := Option.some.inj H
      try go_wp2
      have n0_ := Aside0.mk (Kd.R_drew HO_910002.out)
      have n1_ := Aside0.mk (Kd.S_drew HO_910003.out)
      have n2_ := Aside0.mk (blk_drew BK889.out)
      have n3_ := Aside0.mk (blk_drew BK909.out)
      have n4_ := Aside0.mk (below_drew1 HB.out)
      clear HO_910002
      clear HO_910003
      clear BK889
      clear BK909
      clear HB
      have HO_910002 := n0_
      have HO_910003 := n1_
      have BK889 := n2_
      have BK909 := n3_
      have HB := n4_
      clear n0_ n1_ n2_ n3_ n4_
      refine start_ (n := 5) (S := fun w' => w'.cell? ⟨gb909, 0, none⟩ = some (.int .i64 t901) ∧ w'.cell? ⟨gb909, 1, none⟩ = some (.int .i64 t902) ∧ w'.cell? ⟨gb909, 2, none⟩ = some (.slice Ao25 t903.length co25) ∧ w'.cell? ⟨gb909, 3, none⟩ = some (.slice Ao26 t906.length co26) ∧ w'.cell? ⟨gb889, 0, none⟩ = some (.int .i64 a0_0) ∧ w'.cell? ⟨gb889, 1, none⟩ = some (.int .i64 a0_1) ∧ w'.cell? ⟨gb889, 2, none⟩ = some (.slice A0_2 l0_2.length c0_2) ∧ w'.cell? ⟨gb889, 3, none⟩ = some (.slice A0_3 l0_3.length c0_3)) (ds := []) #[false, false, false, false, false] (by kernel_rfl) rfl rfl ⟨(blk_cell BK909.out 0).trans rfl, (blk_cell BK909.out 1).trans rfl, (blk_cell BK909.out 2).trans rfl, (blk_cell BK909.out 3).trans rfl, (blk_cell BK889.out 0).trans rfl, (blk_cell BK889.out 1).trans rfl, (blk_cell BK889.out 2).trans rfl, (blk_cell BK889.out 3).trans rfl⟩ (fun hHeld => ?_)
      generalize wc.drew = w33 at HO_910002 HO_910003 BK889 BK909 HB hHeld ⊢
      refine take_ (i := 0) (N := some 35) (v := ?_) (a' := ?_) #[true, false, false, false, false] rfl rfl (by kernel_rfl) (fun _ _ _ h => h) (Or.inl ⟨by rfl, ?_⟩) hHeld ?_ ?_
      rotate_left
      ·rintro w' ⟨s0, s1, s2, s3, s4, s5, s6, s7⟩
       go_simp
       with_reducible rfl
      rotate_left
      ·simp only [Act.put, List.setIfInBounds_toArray, List.set_cons_zero, List.set_cons_succ, i64_w, i32_w]
       rfl
      refine take_ (i := 1) (N := some 36) (v := ?_) (a' := ?_) #[true, true, false, false, false] rfl rfl (by kernel_rfl) (fun _ _ _ h => h) (Or.inl ⟨by rfl, ?_⟩) hHeld ?_ ?_
      rotate_left
      ·rintro w' ⟨s0, s1, s2, s3, s4, s5, s6, s7⟩
       go_simp
       with_reducible rfl
      rotate_left
      ·simp only [Act.put, List.setIfInBounds_toArray, List.set_cons_zero, List.set_cons_succ, i64_w, i32_w]
       rfl
      refine one_ (i := 2) (N := some 37) #[true, true, true, false, false] rfl rfl (by kernel_rfl) (by decide) (fun K hK => ?_)
      refine goes_ Tryd.func16 (by kernel_rfl) rfl #[.agg #[.int .i64 a0_0, .int .i64 a0_1, .slice A0_2 l0_2.length c0_2, .slice A0_3 l0_3.length c0_3]] (by rfl) rfl rfl (by (try simp only [List.map_toArray, List.map_cons, List.map_nil]); first | done | rfl | (simp only [List.length_drop, List.length_take]; rfl)) ?_
      with_reducible refine (laws_toRelation.calls kj10 a0_0 a0_1 _ _ l0_2 _ _ l0_3 t912 t913 t914 t917 _ ?side1 ?side2 ?side3 ?side4 A30.out).mono ?_
      (case side1 => repeat (first | exact (Kd.C_below HR0_2.out HB.out) | (with_reducible refine Kd.C_alloc ?_ _) | (with_reducible refine Kd.C_drewN ?_ _) | (with_reducible refine Kd.C_drew ?_)))
      (case side2 => exact HC0_2.out)
      (case side3 => repeat (first | exact (Kd.C_below HR0_3.out HB.out) | (with_reducible refine Kd.C_alloc ?_ _) | (with_reducible refine Kd.C_drewN ?_ _) | (with_reducible refine Kd.C_drew ?_)))
      (case side4 => exact HC0_3.out)
      rintro e w34 ⟨v915, v918, rfl, ho0, ho1, hb⟩
      refine ⟨_, rfl, ?_⟩
      have n0_ := Aside0.mk (Kd.R_elder' (by (with_reducible repeat (first | apply Kd.R_alloc | apply Kd.R_drewN | apply Kd.R_drew)); exact HO_910002.out) (Kd.R_base ho0) hb)
      have n1_ := Aside0.mk (Kd.S_elder' (by (with_reducible repeat (first | apply Kd.S_alloc | apply Kd.S_drewN | apply Kd.S_drew)); exact HO_910003.out) (Kd.S_base ho1) hb)
      have n2_ := Aside0.mk (Kd.R_lower (Kd.R_new' ho0 (Kd.R_lt (by (with_reducible repeat (first | apply Kd.R_alloc | apply Kd.R_drewN | apply Kd.R_drew)); exact HO_910002.out))) (below_size (by repeat (first | (with_reducible first | exact HB.out | apply below_alloc | apply pw_below_drewN | apply below_drew1 | refine below_set ?_ GE889.out | refine below_set ?_ GE909.out) | exact HB.out))))
      have n3_ := Aside0.mk (Kd.S_lower (Kd.S_new' ho1 (Kd.S_lt (by (with_reducible repeat (first | apply Kd.S_alloc | apply Kd.S_drewN | apply Kd.S_drew)); exact HO_910003.out))) (below_size (by repeat (first | (with_reducible first | exact HB.out | apply below_alloc | apply pw_below_drewN | apply below_drew1 | refine below_set ?_ GE889.out | refine below_set ?_ GE909.out) | exact HB.out))))
      have n4_ := Aside0.mk (blk_below (g := gb889) (o := .cells #[.int .i64 a0_0, .int .i64 a0_1, .slice A0_2 l0_2.length c0_2, .slice A0_3 l0_3.length c0_3] 25 (0, 0)) (by (with_reducible repeat (first | refine blk_drewN ?_ _ | refine blk_drew ?_ | refine blk_alloc ?_ _)); exact BK889.out) hb)
      have n5_ := Aside0.mk (blk_below (g := gb909) (o := .cells #[.int .i64 t901, .int .i64 t902, .slice Ao25 t903.length co25, .slice Ao26 t906.length co26] 28 (0, 0)) (by (with_reducible repeat (first | refine blk_drewN ?_ _ | refine blk_drew ?_ | refine blk_alloc ?_ _)); exact BK909.out) hb)
      have n6_ := Aside0.mk (below_step (by repeat (first | (with_reducible first | exact HB.out | apply below_alloc | apply pw_below_drewN | apply below_drew1 | refine below_set ?_ GE889.out | refine below_set ?_ GE909.out) | exact HB.out)) hb)
      clear HO_910002
      clear HO_910003
      clear BK889
      clear BK909
      clear HB
      have HO_910002 := n0_
      have HO_910003 := n1_
      have HO916 := n2_
      have HO919 := n3_
      have BK889 := n4_
      have BK909 := n5_
      have HB := n6_
      clear n0_ n1_ n2_ n3_ n4_ n5_ n6_
      (try clear hb)
      (try clear hb2)
      (try clear hk)
      (try clear hi)
      (try clear ho0)
      (try clear ho1)
      obtain ⟨Ao35, co35, eo35⟩ := Kd.R_slice HO916.out
      (first | subst eo35 | (injection eo35 with f1_ f2_ f3_; have f4_ := f1_.symm; have f5_ := f3_.symm; clear f1_ f2_ f3_; subst f4_; subst f5_))
      obtain ⟨Ao36, co36, eo36⟩ := Kd.S_slice HO919.out
      (first | subst eo36 | (injection eo36 with f1_ f2_ f3_; have f4_ := f1_.symm; have f5_ := f3_.symm; clear f1_ f2_ f3_; subst f4_; subst f5_))
      refine hK.out _ _ ⟨(blk_cell BK909.out 0).trans rfl, (blk_cell BK909.out 1).trans rfl, (blk_cell BK909.out 2).trans rfl, (blk_cell BK909.out 3).trans rfl, (blk_cell BK889.out 0).trans rfl, (blk_cell BK889.out 1).trans rfl, (blk_cell BK889.out 2).trans rfl, (blk_cell BK889.out 3).trans rfl⟩ (fun hHeld => ?_)
      clear hK K
      refine norm_ (a' := ?_) ?_ ?_
      rotate_left
      ·show Act.put _ (some 37) _ = _
       simp only [Act.put, List.setIfInBounds_toArray, List.set_cons_zero, List.set_cons_succ, i64_w, i32_w]
       rfl
      refine one_ (i := 3) (N := some 38) #[true, true, true, true, false] rfl rfl (by kernel_rfl) (by decide) (fun K hK => ?_)
      refine goes_ Tryd.func18 (by kernel_rfl) rfl #[.agg #[.int .i64 t901, .int .i64 t902, .slice Ao25 t903.length co25, .slice Ao26 t906.length co26], .agg #[.int .i64 t912, .int .i64 t913, .slice Ao35 t914.length co35, .slice Ao36 t917.length co36]] (by rfl) rfl rfl (by (try simp only [List.map_toArray, List.map_cons, List.map_nil]); first | done | rfl | (simp only [List.length_drop, List.length_take]; rfl)) ?_
      with_reducible refine (laws_eqRelation.calls kj10 t901 t902 _ _ t903 _ _ t906 t912 t913 _ _ t914 _ _ t917 true _ ?side1 ?side2 ?side3 ?side4 ?side5 ?side6 ?side7 ?side8 A31.out).mono ?_
      (case side1 => repeat (first | exact (Kd.R_reads' HO_910002.out).2.2 | (with_reducible refine Kd.C_alloc ?_ _) | (with_reducible refine Kd.C_drewN ?_ _) | (with_reducible refine Kd.C_drew ?_)))
      (case side2 => exact (Kd.R_reads' HO_910002.out).2.1)
      (case side3 => repeat (first | exact (Kd.S_reads' HO_910003.out).2.2 | (with_reducible refine Kd.C_alloc ?_ _) | (with_reducible refine Kd.C_drewN ?_ _) | (with_reducible refine Kd.C_drew ?_)))
      (case side4 => exact (Kd.S_reads' HO_910003.out).2.1)
      (case side5 => repeat (first | exact (Kd.R_reads' HO916.out).2.2 | (with_reducible refine Kd.C_alloc ?_ _) | (with_reducible refine Kd.C_drewN ?_ _) | (with_reducible refine Kd.C_drew ?_)))
      (case side6 => exact (Kd.R_reads' HO916.out).2.1)
      (case side7 => repeat (first | exact (Kd.S_reads' HO919.out).2.2 | (with_reducible refine Kd.C_alloc ?_ _) | (with_reducible refine Kd.C_drewN ?_ _) | (with_reducible refine Kd.C_drew ?_)))
      (case side8 => exact (Kd.S_reads' HO919.out).2.1)
      rintro e w37 ⟨rfl, hb⟩
      refine ⟨_, rfl, ?_⟩
      have n0_ := Aside0.mk (Kd.R_below (by (with_reducible repeat (first | apply Kd.R_alloc | apply Kd.R_drewN | apply Kd.R_drew)); exact HO_910002.out) hb)
      have n1_ := Aside0.mk (Kd.S_below (by (with_reducible repeat (first | apply Kd.S_alloc | apply Kd.S_drewN | apply Kd.S_drew)); exact HO_910003.out) hb)
      have n2_ := Aside0.mk (Kd.R_below (by (with_reducible repeat (first | apply Kd.R_alloc | apply Kd.R_drewN | apply Kd.R_drew)); exact HO916.out) hb)
      have n3_ := Aside0.mk (Kd.S_below (by (with_reducible repeat (first | apply Kd.S_alloc | apply Kd.S_drewN | apply Kd.S_drew)); exact HO919.out) hb)
      have n4_ := Aside0.mk (blk_below (g := gb889) (o := .cells #[.int .i64 a0_0, .int .i64 a0_1, .slice A0_2 l0_2.length c0_2, .slice A0_3 l0_3.length c0_3] 25 (0, 0)) (by (with_reducible repeat (first | refine blk_drewN ?_ _ | refine blk_drew ?_ | refine blk_alloc ?_ _)); exact BK889.out) hb)
      have n5_ := Aside0.mk (blk_below (g := gb909) (o := .cells #[.int .i64 t901, .int .i64 t902, .slice Ao25 t903.length co25, .slice Ao26 t906.length co26] 28 (0, 0)) (by (with_reducible repeat (first | refine blk_drewN ?_ _ | refine blk_drew ?_ | refine blk_alloc ?_ _)); exact BK909.out) hb)
      have n6_ := Aside0.mk (below_step (by repeat (first | (with_reducible first | exact HB.out | apply below_alloc | apply pw_below_drewN | apply below_drew1 | refine below_set ?_ GE889.out | refine below_set ?_ GE909.out) | exact HB.out)) hb)
      clear HO_910002
      clear HO_910003
      clear HO916
      clear HO919
      clear BK889
      clear BK909
      clear HB
      have HO_910002 := n0_
      have HO_910003 := n1_
      have HO916 := n2_
      have HO919 := n3_
      have BK889 := n4_
      have BK909 := n5_
      have HB := n6_
      clear n0_ n1_ n2_ n3_ n4_ n5_ n6_
      (try clear hb)
      (try clear hb2)
      (try clear hk)
      (try clear hi)
      refine hK.out _ _ ⟨(blk_cell BK909.out 0).trans rfl, (blk_cell BK909.out 1).trans rfl, (blk_cell BK909.out 2).trans rfl, (blk_cell BK909.out 3).trans rfl, (blk_cell BK889.out 0).trans rfl, (blk_cell BK889.out 1).trans rfl, (blk_cell BK889.out 2).trans rfl, (blk_cell BK889.out 3).trans rfl⟩ (fun hHeld => ?_)
      clear hK K
      refine norm_ (a' := ?_) ?_ ?_
      rotate_left
      ·show Act.put _ (some 38) _ = _
       simp only [Act.put, List.setIfInBounds_toArray, List.set_cons_zero, List.set_cons_succ, i64_w, i32_w]
       rfl
      refine pure_ (i := 4) (N := some 39) (v := ?_) (a' := ?_) #[true, true, true, true, true] rfl rfl (by kernel_rfl) (fun _ _ _ h => h) (Or.inl ⟨by rfl, ?_⟩) ?_ ?_
      rotate_left
      ·intro w'
       go_simp
       with_reducible rfl
      rotate_left
      ·simp only [Act.put, List.setIfInBounds_toArray, List.set_cons_zero, List.set_cons_succ, i64_w, i32_w]
       rfl
      refine done_ (by kernel_rfl) ?_
      try go_wp2
      go_ret
      exact ⟨by first | rfl | (simp [errW_none, errW_some] <;> rfl) | (simp [*, errW_none, errW_some] <;> rfl), by repeat (first | (with_reducible first | exact HB.out | apply below_alloc | apply pw_below_drewN | apply below_drew1 | refine below_set ?_ GE889.out | refine below_set ?_ GE909.out) | exact HB.out)⟩
     ·replace c32 := Bool.eq_false_iff.mpr c32
      subst c32
      have H1 : (some false) = some r := by rw [if_neg (show ¬ (false = true) by decide)] at H; exact H
      clear H
      have H := H1
      clear H1
      obtain rfl := Option.some.inj H
      try go_wp2
      have n0_ := Aside0.mk (Kd.R_drew HO_910002.out)
      have n1_ := Aside0.mk (Kd.S_drew HO_910003.out)
      have n2_ := Aside0.mk (blk_drew BK889.out)
      have n3_ := Aside0.mk (blk_drew BK909.out)
      have n4_ := Aside0.mk (below_drew1 HB.out)
      clear HO_910002
      clear HO_910003
      clear BK889
      clear BK909
      clear HB
      have HO_910002 := n0_
      have HO_910003 := n1_
      have BK889 := n2_
      have BK909 := n3_
      have HB := n4_
      clear n0_ n1_ n2_ n3_ n4_
      refine start_ (n := 5) (S := fun w' => w'.cell? ⟨gb909, 0, none⟩ = some (.int .i64 t901) ∧ w'.cell? ⟨gb909, 1, none⟩ = some (.int .i64 t902) ∧ w'.cell? ⟨gb909, 2, none⟩ = some (.slice Ao25 t903.length co25) ∧ w'.cell? ⟨gb909, 3, none⟩ = some (.slice Ao26 t906.length co26) ∧ w'.cell? ⟨gb889, 0, none⟩ = some (.int .i64 a0_0) ∧ w'.cell? ⟨gb889, 1, none⟩ = some (.int .i64 a0_1) ∧ w'.cell? ⟨gb889, 2, none⟩ = some (.slice A0_2 l0_2.length c0_2) ∧ w'.cell? ⟨gb889, 3, none⟩ = some (.slice A0_3 l0_3.length c0_3)) (ds := []) #[false, false, false, false, false] (by kernel_rfl) rfl rfl ⟨(blk_cell BK909.out 0).trans rfl, (blk_cell BK909.out 1).trans rfl, (blk_cell BK909.out 2).trans rfl, (blk_cell BK909.out 3).trans rfl, (blk_cell BK889.out 0).trans rfl, (blk_cell BK889.out 1).trans rfl, (blk_cell BK889.out 2).trans rfl, (blk_cell BK889.out 3).trans rfl⟩ (fun hHeld => ?_)
      generalize wc.drew = w38 at HO_910002 HO_910003 BK889 BK909 HB hHeld ⊢
      refine take_ (i := 0) (N := some 35) (v := ?_) (a' := ?_) #[true, false, false, false, false] rfl rfl (by kernel_rfl) (fun _ _ _ h => h) (Or.inl ⟨by rfl, ?_⟩) hHeld ?_ ?_
      rotate_left
      ·rintro w' ⟨s0, s1, s2, s3, s4, s5, s6, s7⟩
       go_simp
       with_reducible rfl
      rotate_left
      ·simp only [Act.put, List.setIfInBounds_toArray, List.set_cons_zero, List.set_cons_succ, i64_w, i32_w]
       rfl
      refine take_ (i := 1) (N := some 36) (v := ?_) (a' := ?_) #[true, true, false, false, false] rfl rfl (by kernel_rfl) (fun _ _ _ h => h) (Or.inl ⟨by rfl, ?_⟩) hHeld ?_ ?_
      rotate_left
      ·rintro w' ⟨s0, s1, s2, s3, s4, s5, s6, s7⟩
       go_simp
       with_reducible rfl
      rotate_left
      ·simp only [Act.put, List.setIfInBounds_toArray, List.set_cons_zero, List.set_cons_succ, i64_w, i32_w]
       rfl
      refine one_ (i := 2) (N := some 37) #[true, true, true, false, false] rfl rfl (by kernel_rfl) (by decide) (fun K hK => ?_)
      refine goes_ Tryd.func16 (by kernel_rfl) rfl #[.agg #[.int .i64 a0_0, .int .i64 a0_1, .slice A0_2 l0_2.length c0_2, .slice A0_3 l0_3.length c0_3]] (by rfl) rfl rfl (by (try simp only [List.map_toArray, List.map_cons, List.map_nil]); first | done | rfl | (simp only [List.length_drop, List.length_take]; rfl)) ?_
      with_reducible refine (laws_toRelation.calls kj10 a0_0 a0_1 _ _ l0_2 _ _ l0_3 t912 t913 t914 t917 _ ?side1 ?side2 ?side3 ?side4 A30.out).mono ?_
      (case side1 => repeat (first | exact (Kd.C_below HR0_2.out HB.out) | (with_reducible refine Kd.C_alloc ?_ _) | (with_reducible refine Kd.C_drewN ?_ _) | (with_reducible refine Kd.C_drew ?_)))
      (case side2 => exact HC0_2.out)
      (case side3 => repeat (first | exact (Kd.C_below HR0_3.out HB.out) | (with_reducible refine Kd.C_alloc ?_ _) | (with_reducible refine Kd.C_drewN ?_ _) | (with_reducible refine Kd.C_drew ?_)))
      (case side4 => exact HC0_3.out)
      rintro e w39 ⟨v915, v918, rfl, ho0, ho1, hb⟩
      refine ⟨_, rfl, ?_⟩
      have n0_ := Aside0.mk (Kd.R_elder' (by (with_reducible repeat (first | apply Kd.R_alloc | apply Kd.R_drewN | apply Kd.R_drew)); exact HO_910002.out) (Kd.R_base ho0) hb)
      have n1_ := Aside0.mk (Kd.S_elder' (by (with_reducible repeat (first | apply Kd.S_alloc | apply Kd.S_drewN | apply Kd.S_drew)); exact HO_910003.out) (Kd.S_base ho1) hb)
      have n2_ := Aside0.mk (Kd.R_lower (Kd.R_new' ho0 (Kd.R_lt (by (with_reducible repeat (first | apply Kd.R_alloc | apply Kd.R_drewN | apply Kd.R_drew)); exact HO_910002.out))) (below_size (by repeat (first | (with_reducible first | exact HB.out | apply below_alloc | apply pw_below_drewN | apply below_drew1 | refine below_set ?_ GE889.out | refine below_set ?_ GE909.out) | exact HB.out))))
      have n3_ := Aside0.mk (Kd.S_lower (Kd.S_new' ho1 (Kd.S_lt (by (with_reducible repeat (first | apply Kd.S_alloc | apply Kd.S_drewN | apply Kd.S_drew)); exact HO_910003.out))) (below_size (by repeat (first | (with_reducible first | exact HB.out | apply below_alloc | apply pw_below_drewN | apply below_drew1 | refine below_set ?_ GE889.out | refine below_set ?_ GE909.out) | exact HB.out))))
      have n4_ := Aside0.mk (blk_below (g := gb889) (o := .cells #[.int .i64 a0_0, .int .i64 a0_1, .slice A0_2 l0_2.length c0_2, .slice A0_3 l0_3.length c0_3] 25 (0, 0)) (by (with_reducible repeat (first | refine blk_drewN ?_ _ | refine blk_drew ?_ | refine blk_alloc ?_ _)); exact BK889.out) hb)
      have n5_ := Aside0.mk (blk_below (g := gb909) (o := .cells #[.int .i64 t901, .int .i64 t902, .slice Ao25 t903.length co25, .slice Ao26 t906.length co26] 28 (0, 0)) (by (with_reducible repeat (first | refine blk_drewN ?_ _ | refine blk_drew ?_ | refine blk_alloc ?_ _)); exact BK909.out) hb)
      have n6_ := Aside0.mk (below_step (by repeat (first | (with_reducible first | exact HB.out | apply below_alloc | apply pw_below_drewN | apply below_drew1 | refine below_set ?_ GE889.out | refine below_set ?_ GE909.out) | exact HB.out)) hb)
      clear HO_910002
      clear HO_910003
      clear BK889
      clear BK909
      clear HB
      have HO_910002 := n0_
      have HO_910003 := n1_
      have HO916 := n2_
      have HO919 := n3_
      have BK889 := n4_
      have BK909 := n5_
      have HB := n6_
      clear n0_ n1_ n2_ n3_ n4_ n5_ n6_
      (try clear hb)
      (try clear hb2)
      (try clear hk)
      (try clear hi)
      (try clear ho0)
      (try clear ho1)
      obtain ⟨Ao40, co40, eo40⟩ := Kd.R_slice HO916.out
      (first | subst eo40 | (injection eo40 with f1_ f2_ f3_; have f4_ := f1_.symm; have f5_ := f3_.symm; clear f1_ f2_ f3_; subst f4_; subst f5_))
      obtain ⟨Ao41, co41, eo41⟩ := Kd.S_slice HO919.out
      (first | subst eo41 | (injection eo41 with f1_ f2_ f3_; have f4_ := f1_.symm; have f5_ := f3_.symm; clear f1_ f2_ f3_; subst f4_; subst f5_))
      refine hK.out _ _ ⟨(blk_cell BK909.out 0).trans rfl, (blk_cell BK909.out 1).trans rfl, (blk_cell BK909.out 2).trans rfl, (blk_cell BK909.out 3).trans rfl, (blk_cell BK889.out 0).trans rfl, (blk_cell BK889.out 1).trans rfl, (blk_cell BK889.out 2).trans rfl, (blk_cell BK889.out 3).trans rfl⟩ (fun hHeld => ?_)
      clear hK K
      refine norm_ (a' := ?_) ?_ ?_
      rotate_left
      ·show Act.put _ (some 37) _ = _
       simp only [Act.put, List.setIfInBounds_toArray, List.set_cons_zero, List.set_cons_succ, i64_w, i32_w]
       rfl
      refine one_ (i := 3) (N := some 38) #[true, true, true, true, false] rfl rfl (by kernel_rfl) (by decide) (fun K hK => ?_)
      refine goes_ Tryd.func18 (by kernel_rfl) rfl #[.agg #[.int .i64 t901, .int .i64 t902, .slice Ao25 t903.length co25, .slice Ao26 t906.length co26], .agg #[.int .i64 t912, .int .i64 t913, .slice Ao40 t914.length co40, .slice Ao41 t917.length co41]] (by rfl) rfl rfl (by (try simp only [List.map_toArray, List.map_cons, List.map_nil]); first | done | rfl | (simp only [List.length_drop, List.length_take]; rfl)) ?_
      with_reducible refine (laws_eqRelation.calls kj10 t901 t902 _ _ t903 _ _ t906 t912 t913 _ _ t914 _ _ t917 false _ ?side1 ?side2 ?side3 ?side4 ?side5 ?side6 ?side7 ?side8 A31.out).mono ?_
      (case side1 => repeat (first | exact (Kd.R_reads' HO_910002.out).2.2 | (with_reducible refine Kd.C_alloc ?_ _) | (with_reducible refine Kd.C_drewN ?_ _) | (with_reducible refine Kd.C_drew ?_)))
      (case side2 => exact (Kd.R_reads' HO_910002.out).2.1)
      (case side3 => repeat (first | exact (Kd.S_reads' HO_910003.out).2.2 | (with_reducible refine Kd.C_alloc ?_ _) | (with_reducible refine Kd.C_drewN ?_ _) | (with_reducible refine Kd.C_drew ?_)))
      (case side4 => exact (Kd.S_reads' HO_910003.out).2.1)
      (case side5 => repeat (first | exact (Kd.R_reads' HO916.out).2.2 | (with_reducible refine Kd.C_alloc ?_ _) | (with_reducible refine Kd.C_drewN ?_ _) | (with_reducible refine Kd.C_drew ?_)))
      (case side6 => exact (Kd.R_reads' HO916.out).2.1)
      (case side7 => repeat (first | exact (Kd.S_reads' HO919.out).2.2 | (with_reducible refine Kd.C_alloc ?_ _) | (with_reducible refine Kd.C_drewN ?_ _) | (with_reducible refine Kd.C_drew ?_)))
      (case side8 => exact (Kd.S_reads' HO919.out).2.1)
      rintro e w42 ⟨rfl, hb⟩
      refine ⟨_, rfl, ?_⟩
      have n0_ := Aside0.mk (Kd.R_below (by (with_reducible repeat (first | apply Kd.R_alloc | apply Kd.R_drewN | apply Kd.R_drew)); exact HO_910002.out) hb)
      have n1_ := Aside0.mk (Kd.S_below (by (with_reducible repeat (first | apply Kd.S_alloc | apply Kd.S_drewN | apply Kd.S_drew)); exact HO_910003.out) hb)
      have n2_ := Aside0.mk (Kd.R_below (by (with_reducible repeat (first | apply Kd.R_alloc | apply Kd.R_drewN | apply Kd.R_drew)); exact HO916.out) hb)
      have n3_ := Aside0.mk (Kd.S_below (by (with_reducible repeat (first | apply Kd.S_alloc | apply Kd.S_drewN | apply Kd.S_drew)); exact HO919.out) hb)
      have n4_ := Aside0.mk (blk_below (g := gb889) (o := .cells #[.int .i64 a0_0, .int .i64 a0_1, .slice A0_2 l0_2.length c0_2, .slice A0_3 l0_3.length c0_3] 25 (0, 0)) (by (with_reducible repeat (first | refine blk_drewN ?_ _ | refine blk_drew ?_ | refine blk_alloc ?_ _)); exact BK889.out) hb)
      have n5_ := Aside0.mk (blk_below (g := gb909) (o := .cells #[.int .i64 t901, .int .i64 t902, .slice Ao25 t903.length co25, .slice Ao26 t906.length co26] 28 (0, 0)) (by (with_reducible repeat (first | refine blk_drewN ?_ _ | refine blk_drew ?_ | refine blk_alloc ?_ _)); exact BK909.out) hb)
      have n6_ := Aside0.mk (below_step (by repeat (first | (with_reducible first | exact HB.out | apply below_alloc | apply pw_below_drewN | apply below_drew1 | refine below_set ?_ GE889.out | refine below_set ?_ GE909.out) | exact HB.out)) hb)
      clear HO_910002
      clear HO_910003
      clear HO916
      clear HO919
      clear BK889
      clear BK909
      clear HB
      have HO_910002 := n0_
      have HO_910003 := n1_
      have HO916 := n2_
      have HO919 := n3_
      have BK889 := n4_
      have BK909 := n5_
      have HB := n6_
      clear n0_ n1_ n2_ n3_ n4_ n5_ n6_
      (try clear hb)
      (try clear hb2)
      (try clear hk)
      (try clear hi)
      refine hK.out _ _ ⟨(blk_cell BK909.out 0).trans rfl, (blk_cell BK909.out 1).trans rfl, (blk_cell BK909.out 2).trans rfl, (blk_cell BK909.out 3).trans rfl, (blk_cell BK889.out 0).trans rfl, (blk_cell BK889.out 1).trans rfl, (blk_cell BK889.out 2).trans rfl, (blk_cell BK889.out 3).trans rfl⟩ (fun hHeld => ?_)
      clear hK K
      refine norm_ (a' := ?_) ?_ ?_
      rotate_left
      ·show Act.put _ (some 38) _ = _
       simp only [Act.put, List.setIfInBounds_toArray, List.set_cons_zero, List.set_cons_succ, i64_w, i32_w]
       rfl
      refine pure_ (i := 4) (N := some 39) (v := ?_) (a' := ?_) #[true, true, true, true, true] rfl rfl (by kernel_rfl) (fun _ _ _ h => h) (Or.inl ⟨by rfl, ?_⟩) ?_ ?_
      rotate_left
      ·intro w'
       go_simp
       with_reducible rfl
      rotate_left
      ·simp only [Act.put, List.setIfInBounds_toArray, List.set_cons_zero, List.set_cons_succ, i64_w, i32_w]
       rfl
      refine done_ (by kernel_rfl) ?_
      try go_wp2
      go_ret
      exact ⟨by first | rfl | (simp [errW_none, errW_some] <;> rfl) | (simp [*, errW_none, errW_some] <;> rfl), by repeat (first | (with_reducible first | exact HB.out | apply below_alloc | apply pw_below_drewN | apply below_drew1 | refine below_set ?_ GE889.out | refine below_set ?_ GE909.out) | exact HB.out)⟩
end Go.Proofs.YtbkcllfgolmloaaDoor.X

namespace Go.Proofs.YtbkcllfgolmloaaDoor.X
open Go Go.RowKit Go.Proofs.YtbkcllfgolmloaaDoorW.PrintWords Go.Proofs.YtbkcllfgolmloaaDoorW.PrintLast Go.Proofs.YtbkcllfgolmloaaDoorW.PrintMore
set_option linter.unusedVariables false
set_option linter.unusedSimpArgs false
def cellsOfD : DataW Unit → Array Value
 | .agg l => (l.map fun d => match d with | .lit x => x.value | _ => .bool false).toArray
 | _ => #[]
noncomputable def layAt (w : World) (g : Nat) (d : DataW Unit) : World := { w with heap := w.heap.modify g fun
 | .cells _ t frozen => .cells (cellsOfD d) t frozen
 | o => o }
noncomputable def laidWorld (os : Os) : World :=
 layAt (layAt (layAt (World.holding Tryd.prog os ⟨#[], #[], []⟩) 4 Rows.laid_math_bits_deBruijn32tab) 5 Rows.laid_math_bits_deBruijn64tab) 0 Rows.laid_internal_strconv_uint64pow10
def laid3 : List (String × DataW Unit) := [("math/bits.deBruijn32tab", Rows.laid_math_bits_deBruijn32tab), ("math/bits.deBruijn64tab", Rows.laid_math_bits_deBruijn64tab), ("internal/strconv.uint64pow10", Rows.laid_internal_strconv_uint64pow10)]
set_option maxRecDepth 100000 in
theorem laidWorld_met (os : Os) (args : Array Value) : laidMet Tryd.prog laid3 ((laidWorld os).forCall (fun _ _ => 0) ⟨#[], args, []⟩).memory :=
 laidMet_of_run (ps := (List.range 32).map (MemPlace.cell 4) ++ (List.range 64).map (MemPlace.cell 5) ++ (List.range 20).map (MemPlace.cell 0)) 8 (by kernel_rfl) (by kernel_rfl) (by kernel_rfl)
theorem pow_data : (Rows.laid_internal_strconv_uint64pow10 : DataW Unit) = Lib.tabData .u64 Lib.pow10Tab := by kernel_rfl
theorem tab_of_laid {W : World} (h : laidMet Tryd.prog laid3 W) : Lib.TabIs Tryd.prog W "internal/strconv.uint64pow10" .u64 Lib.pow10Tab := by
 obtain ⟨ps, ⟨_, _, _, _, _, _, _, _, _, _, ⟨_, _, _, _, _, _, _, _, _, _, ⟨g', t', cs, fuel, p, q, hg', ht', hvar, hd, _, _⟩, _⟩, _⟩, _⟩ := h
 obtain rfl := Option.some.inj ((show Tryd.prog.globalNamed "internal/strconv.uint64pow10" = some 0 by kernel_rfl).symm.trans hg')
 obtain rfl := Option.some.inj ((show (Tryd.prog.globals[0]?).map (·.type) = some 180 by kernel_rfl).symm.trans ht')
 rw [pow_data] at hd
 unfold Lib.TabIs
 rw [hvar, ← Lib.cells_of_tab Tryd.underlying180 Tryd.underlying172 (by kernel_rfl) (by kernel_rfl) hd]
theorem tabOK_of {W : World} (h : laidMet Tryd.prog laid3 W) : TabOK W := Lib.tabBelow_of_tabIs (tab_of_laid h)
end Go.Proofs.YtbkcllfgolmloaaDoor.X

namespace Go.Proofs.YtbkcllfgolmloaaDoor.X
open Go Go.RowKit Go.Proofs.YtbkcllfgolmloaaDoorW.PrintWords Go.Proofs.YtbkcllfgolmloaaDoorW.PrintLast Go.Proofs.YtbkcllfgolmloaaDoorW.PrintMore
set_option linter.unusedVariables false
set_option linter.unusedSimpArgs false
open Go.ChangeShapes Go.WideShapes Go.ChangeAt Go.Deep Go.Joins
/-- The rows of a relation, as a law's world reads them. -/
def RelIn (W : World) (A2 : Option Addr) (c2 : Nat) (l2 : List Bool) (A3 : Option Addr) (c3 : Nat) (l3 : List (List Int)) : Prop :=
 Kd.C Kd.bool W A2 l2.length l2 ∧ l2.length ≤ c2 ∧ Kd.C (Kd.slice 2 (Kd.int .i64)) W A3 l3.length l3 ∧ l3.length ≤ c3 ∧ l2.length ≤ 9223372036854775807 ∧ l3.length ≤ 9223372036854775807 ∧ (∀ x ∈ l3, x.length ≤ 9223372036854775807) ∧ ∀ x ∈ l3, ∀ n ∈ x, (Lit.int .i64 n).wf = true
theorem open_bool_row {H : Type} {enc : TypeId × Value → H} {W : World} {base : Nat} {held : Bool} {fuel : Nat} {v : Value} {x : DataW H × List MemPlace} (h : DataW.trod enc Tryd.prog W base (fun _ => true) held fuel 22 [v] = some x) :
  ∃ (A : Option Addr) (c : Nat) (l : List Bool), v = .slice A l.length c ∧ Kd.C Kd.bool W A l.length l ∧ l.length ≤ c ∧ l.length ≤ 9223372036854775807 := by
 rcases open_bools Tryd.underlying22 Tryd.underlying4 (by kernel_rfl) h with ⟨hcs, _⟩ | ⟨a, len, cap, B, hcs, _, hl, hm, _, hcell⟩
 ·simp at hcs
  exact ⟨none, 0, [], by simpa using hcs, ⟨rfl, by simp, fun h => absurd h (by simp)⟩, by simp, by simp⟩
 ·simp at hcs
  have hm' : cap ≤ 9223372036854775807 := hm
  refine ⟨some a, cap, (List.range len).map B, by simpa using hcs, ⟨rfl, by simp; omega, fun _ => ⟨a, rfl, fun j p hj => ?_⟩⟩, by simpa using hl, by simp; omega⟩
  have hjl := (List.getElem?_eq_some_iff.1 hj).1
  simp at hjl
  refine ⟨[.bool p], rfl, rfl, fun i u hu => ?_⟩
  have hi : i = 0 := by
   have := (List.getElem?_eq_some_iff.1 hu).1
   simp at this
   omega
  subst hi
  simp at hu hj
  obtain ⟨_, hj⟩ := hj
  subst hu
  rw [show j * Kd.bool.sz + 0 = j by simp [show Kd.bool.sz = 1 from rfl], hcell j (by omega)]
  simp_all
theorem open_int_row {W : World} {A : Option Addr} {L C : Nat} {Z : List Int} (hL : L ≤ C) (hC : C ≤ maxLen) (hZ : Z.length = C) (hN : A = none → C = 0) (hA : ∀ a', A = some a' → ∀ c, c < C → W.cell? (a'.add c) = some (.int .i64 (Z.getD c 0))) :
  Kd.C (Kd.int .i64) W A (Z.take L).length (Z.take L) := by
 have hC' : C ≤ 9223372036854775807 := hC
 refine ⟨rfl, by simp; omega, fun h => ?_⟩
 cases A with
 | none => have := hN rfl; simp at h; omega
 | some a =>
  refine ⟨a, rfl, fun j p hj => ?_⟩
  have hjl := (List.getElem?_eq_some_iff.1 hj).1
  simp at hjl
  refine ⟨[.int .i64 p], rfl, rfl, fun i u hu => ?_⟩
  have hi : i = 0 := by
   have := (List.getElem?_eq_some_iff.1 hu).1
   simp at this
   omega
  subst hi
  simp at hu
  subst hu
  rw [show j * (Kd.int .i64).sz + 0 = j by simp [show (Kd.int .i64).sz = 1 from rfl], hA a rfl j (by omega)]
  rw [List.getElem?_take] at hj
  rw [if_pos (by omega)] at hj
  simp [List.getD_eq_getElem?_getD, hj]
theorem open_rows {H : Type} {enc : TypeId × Value → H} {W : World} {base : Nat} {held : Bool} {fuel : Nat} {v : Value} {x : DataW H × List MemPlace} (h : DataW.trod enc Tryd.prog W base (fun _ => true) held fuel 23 [v] = some x) :
  ∃ (A : Option Addr) (c : Nat) (l : List (List Int)), v = .slice A l.length c ∧ Kd.C (Kd.slice 2 (Kd.int .i64)) W A l.length l ∧ l.length ≤ c ∧ l.length ≤ 9223372036854775807 ∧ (∀ x ∈ l, x.length ≤ 9223372036854775807) ∧ ∀ x ∈ l, ∀ n ∈ x, (Lit.int .i64 n).wf = true := by
 rcases open_int_rows Tryd.underlying23 Tryd.underlying55 Tryd.underlying2 (by kernel_rfl) (by kernel_rfl) h with ⟨hcs, _⟩ | ⟨a, len, cap, A, L, C, Z, hcs, _, hl, hm, _, hr⟩
 ·simp at hcs
  exact ⟨none, 0, [], by simpa using hcs, ⟨rfl, by simp, fun h => absurd h (by simp)⟩, by simp, by simp, by simp, by simp⟩
 ·simp at hcs
  have hm' : cap ≤ 9223372036854775807 := hm
  refine ⟨some a, cap, (List.range len).map fun r => (Z r).take (L r), by simpa using hcs, ⟨rfl, by simp; omega, fun _ => ⟨a, rfl, fun j p hj => ?_⟩⟩, by simpa using hl, by simp; omega, ?_, ?_⟩
  ·have hjl := (List.getElem?_eq_some_iff.1 hj).1
   simp at hjl
   obtain ⟨g1, g2, g3, g4, g5, g6, g7⟩ := hr j (by omega)
   simp at hj
   obtain ⟨_, hj⟩ := hj
   have ep : p = (Z j).take (L j) := by simp_all
   subst ep
   have el : ((Z j).take (L j)).length = L j := by simp; omega
   refine ⟨[.slice (A j) ((Z j).take (L j)).length (C j)], rfl, ⟨A j, C j, rfl, by omega, open_int_row g2 g3 g4 g6 fun a' ha => (g7 a' ha).2⟩, fun i u hu => ?_⟩
   have hi : i = 0 := by
    have := (List.getElem?_eq_some_iff.1 hu).1
    simp at this
    omega
   subst hi
   rw [List.getElem?_cons_zero] at hu
   injection hu with hu
   subst hu
   rw [show j * (Kd.slice 2 (Kd.int .i64)).sz + 0 = j by simp [show (Kd.slice 2 (Kd.int .i64)).sz = 1 from rfl], g1, el]
  ·intro y hy
   obtain ⟨r, hrm, rfl⟩ := List.mem_map.1 hy
   obtain ⟨g1, g2, g3, g4, g5, g6, g7⟩ := hr r (by have := List.mem_range.1 hrm; omega)
   have g3' : C r ≤ 9223372036854775807 := g3
   simp
   omega
  ·intro y hy n hn
   obtain ⟨r, hrm, rfl⟩ := List.mem_map.1 hy
   obtain ⟨g1, g2, g3, g4, g5, g6, g7⟩ := hr r (by have := List.mem_range.1 hrm; omega)
   exact g5 n (List.mem_of_mem_take hn)
set_option maxRecDepth 100000 in
theorem open_rel {H : Type} {enc : TypeId × Value → H} {W : World} {base : Nat} {held : Bool} {r : Reach} {b0 : Nat} {v : Value} {d : DataW H} {p : List MemPlace} (hv : Value.okWide Tryd.prog W r b0 25 v) (h : DataW.Trod enc Tryd.prog W base (fun _ => true) held 25 v d p) :
  ∃ (t s : Int) (A2 : Option Addr) (c2 : Nat) (l2 : List Bool) (A3 : Option Addr) (c3 : Nat) (l3 : List (List Int)), v = .agg #[.int .i64 t, .int .i64 s, .slice A2 l2.length c2, .slice A3 l3.length c3] ∧ (Lit.int .i64 t).wf = true ∧ (Lit.int .i64 s).wf = true ∧ RelIn W A2 c2 l2 A3 c3 l3 := by
 obtain ⟨v0, v1, v2, v3, y0, y1, y2, y3, n, rfl, _, _, h0, h1, h2, h3⟩ := open_agg4 Tryd.underlying25 (by kernel_rfl) (by kernel_rfl) hv h
 obtain ⟨t, e0, _, w0⟩ := DataW.trod_int Tryd.underlying2 h0
 obtain ⟨s, e1, _, w1⟩ := DataW.trod_int Tryd.underlying2 h1
 injection e0 with e0
 injection e1 with e1
 subst e0
 subst e1
 obtain ⟨A2, c2, l2, rfl, g1, g2, g3⟩ := open_bool_row h2
 obtain ⟨A3, c3, l3, rfl, k1, k2, k3, k4, k5⟩ := open_rows h3
 exact ⟨t, s, A2, c2, l2, A3, c3, l3, rfl, w0, w1, g1, g2, k1, k2, g3, k3, k4, k5⟩
end Go.Proofs.YtbkcllfgolmloaaDoor.X

namespace Go.Proofs.YtbkcllfgolmloaaDoor.X
open Go Go.RowKit Go.Proofs.YtbkcllfgolmloaaDoorW.PrintWords Go.Proofs.YtbkcllfgolmloaaDoorW.PrintLast Go.Proofs.YtbkcllfgolmloaaDoorW.PrintMore
set_option linter.unusedVariables false
set_option linter.unusedSimpArgs false
/-- The state behind a column. -/
def stp (ns : List (List Int)) (q c : Int) : Int := rd (ns.getD q.toNat []) c
/-- The language of a state, over columns 0 .. W - 1. -/
def lng (W : Nat) (ac : List Bool) (ns : List (List Int)) : Int → List Int → Bool
 | q, [] => rdOf false ac q
 | q, c :: w => decide (0 ≤ c) && (decide (c < (W : Int)) && lng W ac ns (stp ns q c) w)
/-- A table of n states whose rows are right. -/
def TableOK (W : Nat) (n : Nat) (ns : List (List Int)) : Prop := ns.length = n ∧ ∀ row ∈ ns, row.length = W ∧ ∀ x ∈ row, 0 ≤ x ∧ x < (n : Int)
theorem TableOK.row {W n : Nat} {ns : List (List Int)} (h : TableOK W n ns) {q : Int} (h0 : 0 ≤ q) (h1 : q < (n : Int)) : ns.getD q.toNat [] ∈ ns := by
 have hl : q.toNat < ns.length := by rw [h.1]; omega
 rw [List.getD_eq_getElem?_getD, List.getElem?_eq_getElem hl]
 exact List.getElem_mem hl
theorem TableOK.stpd {W n : Nat} {ns : List (List Int)} (h : TableOK W n ns) {q c : Int} (h0 : 0 ≤ q) (h1 : q < (n : Int)) (c0 : 0 ≤ c) (c1 : c < (W : Int)) : 0 ≤ stp ns q c ∧ stp ns q c < (n : Int) := by
 obtain ⟨hl, hx⟩ := h.2 _ (h.row h0 h1)
 have hc : c.toNat < (ns.getD q.toNat []).length := by rw [hl]; omega
 unfold stp rd
 rw [List.getD_eq_getElem?_getD, List.getElem?_eq_getElem hc]
 exact hx _ (List.getElem_mem hc)
section
variable {K K' : Type} [DecidableEq K] [DecidableEq K'] {φ : K → K'} {S : K → Prop}
omit [DecidableEq K] [DecidableEq K'] in
theorem mem_map_inj (hinj : ∀ a b, S a → S b → φ a = φ b → a = b) {l : List K} (hl : ∀ k ∈ l, S k) {t : K} (ht : S t) : φ t ∈ l.map φ ↔ t ∈ l := by
 constructor
 ·intro h
  obtain ⟨a, ha, he⟩ := List.mem_map.1 h
  exact hinj _ _ (hl a ha) ht he ▸ ha
 ·exact List.mem_map_of_mem
theorem idxOf_map_inj (hinj : ∀ a b, S a → S b → φ a = φ b → a = b) {l : List K} (hl : ∀ k ∈ l, S k) {t : K} (ht : S t) : (l.map φ).idxOf (φ t) = l.idxOf t := by
 induction l with
 | nil => rfl
 | cons a l ih =>
  rw [List.map_cons, List.idxOf_cons, List.idxOf_cons, ih (fun k hk => hl k (List.mem_cons_of_mem _ hk))]
  by_cases e : a = t
  ·subst e; simp
  ·have e' : ¬ φ a = φ t := fun h => e (hinj _ _ (hl a (by simp)) ht h)
   rw [beq_eq_false_iff_ne.2 e, beq_eq_false_iff_ne.2 e']
theorem growRow_map (hinj : ∀ a b, S a → S b → φ a = φ b → a = b) {good : K → Bool} {good' : K' → Bool} {nx : Int → Option K} {nx' : Int → Option K'} {W : Nat}
  (hnx : ∀ c k, 0 ≤ c → c < (W : Int) → nx c = some k → S k ∧ nx' c = some (φ k) ∧ good' (φ k) = true) :
  ∀ (m : Nat) (c : Int) (l : List K) (row : List Int) (l1 : List K) (row1 : List Int), 0 ≤ c → c + m = (W : Int) → (∀ k ∈ l, S k) → growRow good nx m c l row = some (l1, row1) →
   growRow good' nx' m c (l.map φ) row = some (l1.map φ, row1) ∧ ∀ k ∈ l1, S k := by
 intro m
 induction m with
 | zero =>
  intro c l row l1 row1 _ _ hl h
  simp only [growRow, Option.some.injEq, Prod.mk.injEq] at h ⊢
  obtain ⟨rfl, rfl⟩ := h
  exact ⟨⟨rfl, rfl⟩, hl⟩
 | succ m ih =>
  intro c l row l1 row1 h0 h1 hl h
  simp only [growRow] at h
  obtain ⟨t, ht, h⟩ := Option.bind_eq_some_iff.mp h
  split at h
  ·obtain ⟨hS, hn, hg⟩ := hnx c t h0 (by omega) ht
   simp only [growRow, hn, Option.bind_some, hg, if_true]
   rw [idxOf_map_inj hinj hl hS, List.length_map]
   by_cases e : t ∈ l
   ·rw [if_pos e] at h
    rw [if_pos ((mem_map_inj hinj hl hS).2 e)]
    exact ih _ _ _ _ _ (by omega) (by omega) hl h
   ·rw [if_neg e] at h
    rw [if_neg (fun h => e ((mem_map_inj hinj hl hS).1 h))]
    split at h
    ·next hlt =>
     rw [if_pos hlt]
     have := ih _ (l ++ [t]) _ _ _ (by omega) (by omega) (by intro k hk; rcases List.mem_append.1 hk with hk | hk; exact hl k hk; simp at hk; exact hk ▸ hS) h
     simpa using this
    ·cases h
  ·cases h
theorem growL_map (hinj : ∀ a b, S a → S b → φ a = φ b → a = b) {good : K → Bool} {good' : K' → Bool} {acc : K → Option Bool} {acc' : K' → Option Bool} {next : K → Int → Option K} {next' : K' → Int → Option K'} {W : Nat}
  (hnx : ∀ k c t, S k → 0 ≤ c → c < (W : Int) → next k c = some t → S t ∧ next' (φ k) c = some (φ t) ∧ good' (φ t) = true) (hac : ∀ k b, S k → acc k = some b → acc' (φ k) = some b) :
  ∀ (f : Nat) (l : List K) (bs : List Bool) (rs : List (List Int)) (r : List Bool × List (List Int)), (∀ k ∈ l, S k) → growL good acc next W f l bs rs = some r → growL good' acc' next' W f (l.map φ) bs rs = some r := by
 intro f
 induction f with
 | zero => intro l bs rs r _ h; simp [growL] at h
 | succ f ih =>
  intro l bs rs r hl h
  simp only [growL] at h ⊢
  rw [List.getElem?_map]
  cases e : l[bs.length]? with
  | none => rw [e] at h; simpa using h
  | some k =>
   rw [e] at h
   simp only [Option.map_some] at h ⊢
   have hk : S k := hl k (List.mem_of_getElem? e)
   obtain ⟨p, hp, h⟩ := Option.bind_eq_some_iff.mp h
   obtain ⟨b, hb, h⟩ := Option.bind_eq_some_iff.mp h
   obtain ⟨hr, hS⟩ := growRow_map (W := W) hinj (fun c t c0 c1 ht => hnx k c t hk c0 c1 ht) W 0 l [] p.1 p.2 (by omega) (by omega) hl hp
   rw [hr]
   simp only [Option.bind_some, hac k b hk hb]
   exact ih _ _ _ _ hS h
theorem growL_more {good : K → Bool} {acc : K → Option Bool} {next : K → Int → Option K} {W : Nat} : ∀ (f d : Nat) (l : List K) (bs : List Bool) (rs : List (List Int)) (r : List Bool × List (List Int)), growL good acc next W f l bs rs = some r → growL good acc next W (f + d) l bs rs = some r := by
 intro f
 induction f with
 | zero => intro d l bs rs r h; simp [growL] at h
 | succ f ih =>
  intro d l bs rs r h
  rw [Nat.add_right_comm]
  simp only [growL] at h ⊢
  cases e : l[bs.length]? with
  | none => rw [e] at h; exact h
  | some k =>
   rw [e] at h
   simp only at h ⊢
   obtain ⟨p, hp, h⟩ := Option.bind_eq_some_iff.mp h
   obtain ⟨b, hb, h⟩ := Option.bind_eq_some_iff.mp h
   rw [hp]
   simp only [Option.bind_some, hb]
   exact ih d _ _ _ _ h
theorem growL_same {good : K → Bool} {acc : K → Option Bool} {next : K → Int → Option K} {W f g : Nat} {l : List K} {bs : List Bool} {rs : List (List Int)} {r s : List Bool × List (List Int)} (h : growL good acc next W f l bs rs = some r) (h2 : growL good acc next W g l bs rs = some s) : r = s := by
 have a := growL_more f g _ _ _ _ h
 have b := growL_more g f _ _ _ _ h2
 rw [Nat.add_comm] at b
 exact Option.some.inj (a.symm.trans b)
theorem nodup_len {K : Type} [DecidableEq K] : ∀ (a b : List K), a.Nodup → (∀ k ∈ a, k ∈ b) → a.length ≤ b.length := by
 intro a
 induction a with
 | nil => intro b _ _; simp
 | cons x a ih =>
  intro b hn hs
  have hx : x ∈ b := hs x (by simp)
  have hn' := List.nodup_cons.1 hn
  have := ih (b.erase x) hn'.2 (fun k hk => (List.mem_erase_of_ne (fun e : k = x => hn'.1 (by rw [← e]; exact hk))).2 (hs k (by simp [hk])))
  rw [List.length_erase_of_mem hx] at this
  have := List.length_pos_of_mem hx
  simp only [List.length_cons]
  omega
theorem growRow_some {U : List K} (hU : U.length ≤ 1048576) {good : K → Bool} {nx : Int → Option K} {W : Nat} (hnx : ∀ c, 0 ≤ c → c < (W : Int) → ∃ t, nx c = some t ∧ good t = true ∧ t ∈ U) :
  ∀ (m : Nat) (c : Int) (l : List K) (row : List Int), 0 ≤ c → c + m = (W : Int) → l.Nodup → (∀ k ∈ l, k ∈ U) → ∃ l1 row1, growRow good nx m c l row = some (l ++ l1, row ++ row1) ∧ (l ++ l1).Nodup ∧ (∀ k ∈ l ++ l1, k ∈ U) ∧ row1.length = m ∧ ∀ x ∈ row1, 0 ≤ x ∧ x < ((l ++ l1).length : Int) := by
 intro m
 induction m with
 | zero => intro c l row _ _ hn hl; exact ⟨[], [], by simp [growRow], by simpa using hn, by simpa using hl, rfl, by simp⟩
 | succ m ih =>
  intro c l row h0 h1 hn hl
  obtain ⟨t, ht, hg, hu⟩ := hnx c h0 (by omega)
  simp only [growRow, ht, Option.bind_some, hg, if_true]
  by_cases e : t ∈ l
  ·rw [if_pos e]
   obtain ⟨l1, row1, h, hn1, hl1, hr, hx⟩ := ih (c + 1) l (row ++ [(l.idxOf t : Int)]) (by omega) (by omega) hn hl
   refine ⟨l1, (l.idxOf t : Int) :: row1, by simpa using h, hn1, hl1, by simp [hr], ?_⟩
   intro x hx'
   rcases List.mem_cons.1 hx' with rfl | hx'
   ·have := List.idxOf_lt_length_iff.2 e
    simp only [List.length_append]
    omega
   ·exact hx x hx'
  ·rw [if_neg e]
   have hn' : (l ++ [t]).Nodup := List.nodup_append.2 ⟨hn, by simp, fun a ha b hb => by simp at hb; subst hb; exact fun he => e (he ▸ ha)⟩
   have hl' : ∀ k ∈ l ++ [t], k ∈ U := by
    intro k hk
    rcases List.mem_append.1 hk with hk | hk
    ·exact hl k hk
    ·simp at hk; exact hk ▸ hu
   have := nodup_len _ _ hn' hl'
   rw [if_pos (by simp at this; omega)]
   obtain ⟨l1, row1, h, hn1, hl1, hr, hx⟩ := ih (c + 1) (l ++ [t]) (row ++ [(l.length : Int)]) (by omega) (by omega) hn' hl'
   refine ⟨t :: l1, (l.length : Int) :: row1, by simpa using h, by simpa using hn1, by simpa using hl1, by simp [hr], ?_⟩
   intro x hx'
   rcases List.mem_cons.1 hx' with rfl | hx'
   ·simp only [List.length_append, List.length_cons]
    omega
   ·simpa using hx x hx'
theorem growL_some {U : List K} (hU : U.length ≤ 1048576) {good : K → Bool} {acc : K → Option Bool} {next : K → Int → Option K} {W : Nat} (hnx : ∀ k c, k ∈ U → 0 ≤ c → c < (W : Int) → ∃ t, next k c = some t ∧ good t = true ∧ t ∈ U) (hac : ∀ k ∈ U, ∃ b, acc k = some b) :
  ∀ (f : Nat) (l : List K) (bs : List Bool) (rs : List (List Int)), l.Nodup → (∀ k ∈ l, k ∈ U) → bs.length ≤ l.length → U.length < f + bs.length → ∃ r, growL good acc next W f l bs rs = some r := by
 intro f
 induction f with
 | zero =>
  intro l bs rs hn hl hb hf
  have := nodup_len _ _ hn hl
  omega
 | succ f ih =>
  intro l bs rs hn hl hb hf
  simp only [growL]
  cases e : l[bs.length]? with
  | none => exact ⟨_, rfl⟩
  | some k =>
   simp only
   have hk : k ∈ U := hl k (List.mem_of_getElem? e)
   obtain ⟨l1, row1, h, hn1, hl1, _⟩ := growRow_some hU (fun c c0 c1 => hnx k c hk c0 c1) W 0 l [] (by omega) (by omega) hn hl
   obtain ⟨b, hb'⟩ := hac k hk
   rw [h]
   simp only [Option.bind_some, hb']
   have : bs.length < l.length := (List.getElem?_eq_some_iff.1 e).1
   exact ih _ _ _ hn1 hl1 (by simp; omega) (by simp; omega)
end
section
variable (W n : Nat) (ac : List Bool) (ns : List (List Int))
/-- One round: g1 parts what g parts, or what a column leads to parts by g; its values are 0 .. m - 1, each met. -/
structure Finer (g g1 : Int → Int) (m : Nat) : Prop where
 iff : ∀ i j, 0 ≤ i → i < (n : Int) → 0 ≤ j → j < (n : Int) → (g1 i = g1 j ↔ (g i = g j ∧ ∀ c, 0 ≤ c → c < (W : Int) → g (stp ns i c) = g (stp ns j c)))
 lo : ∀ i, 0 ≤ i → i < (n : Int) → 0 ≤ g1 i ∧ g1 i < (m : Int)
 met : ∀ k : Nat, k < m → ∃ i, 0 ≤ i ∧ i < (n : Int) ∧ g1 i = (k : Int)
/-- What holds of the classes all the time. -/
structure ClassOK (g : Int → Int) : Prop where
 coarse : ∀ i j, 0 ≤ i → i < (n : Int) → 0 ≤ j → j < (n : Int) → lng W ac ns i = lng W ac ns j → g i = g j
 acc : ∀ i j, 0 ≤ i → i < (n : Int) → 0 ≤ j → j < (n : Int) → g i = g j → rdOf false ac i = rdOf false ac j
/-- The classes are those of the languages. -/
def ClassEq (g : Int → Int) : Prop := ∀ i j, 0 ≤ i → i < (n : Int) → 0 ≤ j → j < (n : Int) → (g i = g j ↔ lng W ac ns i = lng W ac ns j)
variable {W n ac ns} {g g1 : Int → Int} {m : Nat}
theorem lng_stp {i j : Int} (h : lng W ac ns i = lng W ac ns j) {c : Int} (c0 : 0 ≤ c) (c1 : c < (W : Int)) : lng W ac ns (stp ns i c) = lng W ac ns (stp ns j c) := by
 funext w
 have := congrFun h (c :: w)
 simpa [lng, c0, c1] using this
theorem ClassOK.next (hT : TableOK W n ns) (h : ClassOK W n ac ns g) (hf : Finer W n ns g g1 m) : ClassOK W n ac ns g1 := by
 refine ⟨fun i j i0 i1 j0 j1 e => (hf.iff i j i0 i1 j0 j1).2 ⟨h.coarse i j i0 i1 j0 j1 e, fun c c0 c1 => ?_⟩, fun i j i0 i1 j0 j1 e => h.acc i j i0 i1 j0 j1 ((hf.iff i j i0 i1 j0 j1).1 e).1⟩
 have a := hT.stpd i0 i1 c0 c1
 have b := hT.stpd j0 j1 c0 c1
 exact h.coarse _ _ a.1 a.2 b.1 b.2 (lng_stp e c0 c1)
/-- Numbers from 0 on that are all met lie in a list that is as long at least. -/
theorem covers_len : ∀ (m : Nat) (l : List Int), (∀ k : Nat, k < m → (k : Int) ∈ l) → m ≤ l.length := by
 intro m l h
 have := nodup_len ((List.range m).map (fun k : Nat => (k : Int))) l (List.pairwise_map.2 (List.nodup_range.imp (fun {a b} e h => e (by have h : (a : Int) = (b : Int) := h; omega)))) (by
  intro k hk
  obtain ⟨a, ha, rfl⟩ := List.mem_map.1 hk
  exact h a (List.mem_range.1 ha))
 simpa using this
theorem Finer.reps (hf : Finer W n ns g g1 m) : ∃ reps : List Int, reps.length = m ∧ ∀ k : Nat, k < m → 0 ≤ rd reps k ∧ rd reps k < (n : Int) ∧ g1 (rd reps k) = (k : Int) := by
 have : ∀ d : Nat, d ≤ m → ∃ reps : List Int, reps.length = d ∧ ∀ k : Nat, k < d → 0 ≤ rd reps k ∧ rd reps k < (n : Int) ∧ g1 (rd reps k) = (k : Int) := by
  intro d
  induction d with
  | zero => exact fun _ => ⟨[], rfl, fun k hk => by omega⟩
  | succ d ih =>
   intro hd
   obtain ⟨reps, hl, hr⟩ := ih (by omega)
   obtain ⟨i, i0, i1, hi⟩ := hf.met d (by omega)
   refine ⟨reps ++ [i], by simp [hl], fun k hk => ?_⟩
   by_cases e : k < d
   ·have : rd (reps ++ [i]) k = rd reps k := by simp [rd, List.getD_eq_getElem?_getD, List.getElem?_append_left (show k < reps.length by omega)]
    rw [this]
    exact hr k e
   ·obtain rfl : k = d := by omega
    have : rd (reps ++ [i]) k = i := by simp [rd, List.getD_eq_getElem?_getD, ← hl]
    rw [this]
    exact ⟨i0, i1, hi⟩
 exact this m (Nat.le_refl _)
theorem rd_mem {l : List Int} {k : Nat} (h : k < l.length) : rd l k ∈ l := by
 simp only [rd, Int.toNat_natCast, List.getD_eq_getElem?_getD, List.getElem?_eq_getElem h, Option.getD_some]
 exact List.getElem_mem h
/-- Finer classes are as many at least. -/
theorem Finer.le (hf : Finer W n ns g g1 m) {m0 : Nat} (hm : ∀ k : Nat, k < m0 → ∃ i, 0 ≤ i ∧ i < (n : Int) ∧ g i = (k : Int)) : m0 ≤ m := by
 obtain ⟨reps, hl, hr⟩ := hf.reps
 have := covers_len m0 (reps.map g) (by
  intro k hk
  obtain ⟨i, i0, i1, hi⟩ := hm k hk
  obtain ⟨a0, a1⟩ := hf.lo i i0 i1
  have hk1 : (g1 i).toNat < m := by omega
  obtain ⟨b0, b1, b2⟩ := hr _ hk1
  have e : g1 (rd reps (g1 i).toNat) = g1 i := by rw [b2]; omega
  rw [← hi, ← ((hf.iff _ _ b0 b1 i0 i1).1 e).1]
  exact List.mem_map_of_mem (rd_mem (by omega)))
 simpa [hl] using this
/-- As many classes as before: the same ones. -/
theorem Finer.same (hf : Finer W n ns g g1 m) (hm : ∀ k : Nat, k < m → ∃ i, 0 ≤ i ∧ i < (n : Int) ∧ g i = (k : Int)) {i j : Int} (i0 : 0 ≤ i) (i1 : i < (n : Int)) (j0 : 0 ≤ j) (j1 : j < (n : Int)) (h : g i = g j) : g1 i = g1 j := by
 obtain ⟨reps, hl, hr⟩ := hf.reps
 refine Classical.byContradiction fun hne => ?_
 obtain ⟨a0, a1⟩ := hf.lo i i0 i1
 obtain ⟨b0, b1⟩ := hf.lo j j0 j1
 have key : ∀ x, 0 ≤ x → x < (n : Int) → g (rd reps (g1 x).toNat) = g x := by
  intro x x0 x1
  obtain ⟨c0, c1⟩ := hf.lo x x0 x1
  obtain ⟨d0, d1, d2⟩ := hr (g1 x).toNat (by omega)
  exact ((hf.iff _ _ d0 d1 x0 x1).1 (by rw [d2]; omega)).1
 have := covers_len m ((reps.eraseIdx (g1 j).toNat).map g) (by
  intro k hk
  obtain ⟨x, x0, x1, hx⟩ := hm k hk
  obtain ⟨c0, c1⟩ := hf.lo x x0 x1
  -- the place of x, or of i where x stands at j's
  have pos : ∃ p : Nat, p < m ∧ p ≠ (g1 j).toNat ∧ g (rd reps p) = (k : Int) := by
   by_cases e : g1 x = g1 j
   ·refine ⟨(g1 i).toNat, by omega, by omega, ?_⟩
    rw [key i i0 i1, h, ← ((hf.iff x j x0 x1 j0 j1).1 e).1, hx]
   ·exact ⟨(g1 x).toNat, by omega, by omega, by rw [key x x0 x1, hx]⟩
  obtain ⟨p, hp, hpj, hg⟩ := pos
  rw [← hg]
  refine List.mem_map_of_mem ?_
  rw [List.mem_eraseIdx_iff_getElem?]
  exact ⟨p, hpj, by simp [rd, List.getD_eq_getElem?_getD, List.getElem?_eq_getElem (show p < reps.length by omega)]⟩)
 rw [List.length_map, List.length_eraseIdx_of_lt (by omega)] at this
 omega
theorem ClassOK.eq (hT : TableOK W n ns) (h : ClassOK W n ac ns g) (hf : Finer W n ns g g1 m) (hm : ∀ k : Nat, k < m → ∃ i, 0 ≤ i ∧ i < (n : Int) ∧ g i = (k : Int)) : ClassEq W n ac ns g1 := by
 have h1 := h.next hT hf
 intro i j i0 i1 j0 j1
 refine ⟨fun e => ?_, h1.coarse i j i0 i1 j0 j1⟩
 funext w
 induction w generalizing i j with
 | nil => simpa [lng] using h1.acc i j i0 i1 j0 j1 e
 | cons c w ih =>
  simp only [lng]
  by_cases c0 : 0 ≤ c
  ·by_cases c1 : c < (W : Int)
   ·have a := hT.stpd i0 i1 c0 c1
    have b := hT.stpd j0 j1 c0 c1
    rw [ih _ _ a.1 a.2 b.1 b.2 (hf.same hm a.1 a.2 b.1 b.2 (((hf.iff i j i0 i1 j0 j1).1 e).2 c c0 c1))]
   ·simp [c1]
  ·simp [c0]
end
theorem decDigits_no44 : ∀ (u : Nat), ∀ c ∈ Lib.decDigits u, c ≠ 44 ∧ c ≠ 45 := by
 intro u
 induction u using Nat.strongRecOn with
 | _ u ih =>
  intro c hc
  have key : ∀ d < 10, UInt8.ofNat (48 + d) ≠ 44 ∧ UInt8.ofNat (48 + d) ≠ 45 := by decide
  rw [Lib.decDigits] at hc
  split at hc
  ·next h =>
   obtain rfl := List.mem_singleton.1 hc
   exact key u h
  ·next h =>
   rcases List.mem_append.1 hc with hc | hc
   ·exact ih (u / 10) (by omega) c hc
   ·obtain rfl := List.mem_singleton.1 hc
    exact key (u % 10) (by omega)
theorem digit_inj {a b : Nat} (ha : a < 10) (hb : b < 10) (h : UInt8.ofNat (48 + a) = UInt8.ofNat (48 + b)) : a = b := by
 have := congrArg UInt8.toNat h
 simp at this
 omega
theorem decDigits_ne (u : Nat) : Lib.decDigits u ≠ [] := by
 rw [Lib.decDigits]
 split <;> simp
theorem decDigits_inj : ∀ (u v : Nat), Lib.decDigits u = Lib.decDigits v → u = v := by
 intro u
 induction u using Nat.strongRecOn with
 | _ u ih =>
  intro v h
  rw [Lib.decDigits, Lib.decDigits.eq_def v] at h
  split at h
  ·next hu =>
   split at h
   ·next hv => exact digit_inj hu hv (by simpa using h)
   ·next hv =>
    have := List.append_inj_left' (s₁ := []) h (by simp)
    exact absurd this.symm (decDigits_ne _)
  ·next hu =>
   split at h
   ·next hv =>
    have := List.append_inj_left' (s₂ := []) h (by simp)
    exact absurd this (decDigits_ne _)
   ·next hv =>
    have h1 := List.append_inj_left' h (by simp)
    have h2 := List.append_inj_right' h (by simp)
    have := ih (u / 10) (by omega) _ h1
    have := digit_inj (a := u % 10) (b := v % 10) (by omega) (by omega) (by simpa using h2)
    omega
theorem itoa_no44 (n : Int) : ∀ c ∈ Lib.itoa n, c ≠ 44 := by
 intro c hc
 unfold Lib.itoa at hc
 split at hc
 ·rcases List.mem_cons.1 hc with rfl | hc
  ·decide
  ·exact (decDigits_no44 _ c hc).1
 ·exact (decDigits_no44 _ c hc).1
theorem itoa_inj (a b : Int) (h : Lib.itoa a = Lib.itoa b) : a = b := by
 unfold Lib.itoa at h
 split at h
 ·next ha =>
  split at h
  ·next hb =>
   injection h with _ h
   have := decDigits_inj _ _ h
   omega
  ·next hb => exact absurd rfl (decDigits_no44 _ 45 (by rw [← h]; simp)).2
 ·next ha =>
  split at h
  ·next hb => exact absurd rfl (decDigits_no44 _ 45 (by rw [h]; simp)).2
  ·next hb =>
   have := decDigits_inj _ _ h
   omega
theorem cut44 : ∀ (a b r s : List UInt8), (∀ c ∈ a, c ≠ 44) → (∀ c ∈ b, c ≠ 44) → (r = [] ∨ ∃ t, r = 44 :: t) → (s = [] ∨ ∃ t, s = 44 :: t) → a ++ r = b ++ s → a = b ∧ r = s := by
 intro a
 induction a with
 | nil =>
  intro b r s _ hb hr hs h
  cases b with
  | nil => exact ⟨rfl, h⟩
  | cons y b =>
   rcases hr with rfl | ⟨t, rfl⟩
   ·simp at h
   ·simp only [List.nil_append, List.cons_append, List.cons.injEq] at h
    exact absurd h.1.symm (hb y (by simp))
 | cons x a ih =>
  intro b r s ha hb hr hs h
  cases b with
  | nil =>
   rcases hs with rfl | ⟨t, rfl⟩
   ·simp at h
   ·simp only [List.nil_append, List.cons_append, List.cons.injEq] at h
    exact absurd h.1 (ha x (by simp))
  | cons y b =>
   simp only [List.cons_append, List.cons.injEq] at h
   obtain ⟨e, h2⟩ := ih b r s (fun c hc => ha c (by simp [hc])) (fun c hc => hb c (by simp [hc])) hr hs h.2
   exact ⟨by rw [h.1, e], h2⟩
def tailKey (l : List Int) : List UInt8 := l.flatMap fun g => 44 :: Lib.itoa g
theorem tailKey_form (l : List Int) : tailKey l = [] ∨ ∃ t, tailKey l = 44 :: t := by
 cases l with
 | nil => exact .inl rfl
 | cons x l => exact .inr ⟨_, by simp [tailKey]; rfl⟩
theorem tailKey_inj : ∀ (k l : List Int), tailKey k = tailKey l → k = l := by
 intro k
 induction k with
 | nil =>
  intro l h
  cases l with
  | nil => rfl
  | cons y l => simp [tailKey] at h
 | cons x k ih =>
  intro l h
  cases l with
  | nil => simp [tailKey] at h
  | cons y l =>
   have h' : Lib.itoa x ++ tailKey k = Lib.itoa y ++ tailKey l := by simpa [tailKey] using h
   obtain ⟨e, h2⟩ := cut44 _ _ _ _ (itoa_no44 x) (itoa_no44 y) (tailKey_form k) (tailKey_form l) h'
   rw [itoa_inj _ _ e, ih l h2]
theorem at1_in {α : Type} {d : α} {xs : List α} {i : Int} (h0 : 0 ≤ i) (h1 : i < (xs.length : Int)) : at1 d xs i = some (rdOf d xs i) := by
 unfold at1
 rw [if_pos ⟨h0, h1⟩]
theorem keyL_eq (group : List Int) : ∀ (row : List Int) (key : List UInt8), (∀ q ∈ row, 0 ≤ q ∧ q < (group.length : Int)) → keyL group row key = some (key ++ tailKey (row.map (rd group))) := by
 intro row
 induction row with
 | nil => intro key _; simp [keyL, tailKey]
 | cons q r ih =>
  intro key h
  have hq := h q (by simp)
  rw [keyL, at1_in hq.1 hq.2]
  simp only [Option.bind_some]
  rw [ih _ (fun q hq => h q (by simp [hq]))]
  simp [tailKey, rdOf, rd]
section
variable {κ : Type} [DecidableEq κ]
def roundG : List κ → Nat → List κ → List Int → List κ × List Int
 | [], _, keys, next => (keys, next)
 | k :: ks, i, keys, next => if k ∈ keys then roundG ks (i + 1) keys (next.set i (keys.idxOf k : Int)) else roundG ks (i + 1) (keys ++ [k]) (next.set i (keys.length : Int))
theorem set_snoc {a b : List Int} {x y : Int} {i : Nat} (h : i = a.length) : (a ++ y :: b).set i x = a ++ x :: b := by
 subst h
 simp
theorem roundG_eq : ∀ (ks : List κ) (i : Nat) (keys : List κ) (done rest : List Int), done.length = i → rest.length = ks.length → keys.Nodup →
  ∃ D, roundG ks i keys (done ++ rest) = (keys ++ D, done ++ ks.map fun k => ((keys ++ D).idxOf k : Int)) ∧ (keys ++ D).Nodup ∧ (∀ k ∈ ks, k ∈ keys ++ D) ∧ ∀ d ∈ D, d ∈ ks := by
 intro ks
 induction ks with
 | nil =>
  intro i keys done rest h1 h2 h3
  have : rest = [] := by cases rest; rfl; simp at h2
  subst this
  exact ⟨[], by simp [roundG], by simpa using h3, by simp, by simp⟩
 | cons k ks ih =>
  intro i keys done rest h1 h2 h3
  cases rest with
  | nil => simp at h2
  | cons y rest =>
   simp only [roundG]
   rw [set_snoc h1.symm, set_snoc h1.symm]
   by_cases e : k ∈ keys
   ·rw [if_pos e]
    obtain ⟨D, hr, hn, hk, hd⟩ := ih (i + 1) keys (done ++ [(keys.idxOf k : Int)]) rest (by simp [h1]) (by simpa using h2) h3
    refine ⟨D, ?_, hn, ?_, fun d hd' => by simp [hd d hd']⟩
    ·rw [show done ++ (keys.idxOf k : Int) :: rest = done ++ [(keys.idxOf k : Int)] ++ rest by simp, hr]
     simp [List.idxOf_append, e]
    ·intro x hx
     rcases List.mem_cons.1 hx with rfl | hx
     ·simp [e]
     ·exact hk x hx
   ·rw [if_neg e]
    have hn' : (keys ++ [k]).Nodup := List.nodup_append.2 ⟨h3, by simp, fun a ha b hb => by simp at hb; subst hb; exact fun he => e (he ▸ ha)⟩
    obtain ⟨D, hr, hn, hk, hd⟩ := ih (i + 1) (keys ++ [k]) (done ++ [(keys.length : Int)]) rest (by simp [h1]) (by simpa using h2) hn'
    refine ⟨k :: D, ?_, by simpa using hn, ?_, ?_⟩
    ·rw [show done ++ (keys.length : Int) :: rest = done ++ [(keys.length : Int)] ++ rest by simp, hr]
     simp [List.idxOf_append, e]
    ·intro x hx
     rcases List.mem_cons.1 hx with rfl | hx
     ·simp
     ·simpa using hk x hx
    ·intro d hd'
     rcases List.mem_cons.1 hd' with rfl | hd'
     ·simp
     ·simp [hd d hd']
/-- A round over keys that tell what 'Finer' asks. -/
theorem round_finer {W n : Nat} {ns : List (List Int)} {g : Int → Int} {ks : List κ} (hl : ks.length = n)
  (hk : ∀ i j : Nat, i < n → j < n → (ks[i]? = ks[j]? ↔ (g i = g j ∧ ∀ c, 0 ≤ c → c < (W : Int) → g (stp ns i c) = g (stp ns j c)))) :
  ∃ D l, roundG ks 0 [] (List.replicate n 0) = (D, l) ∧ l.length = n ∧ D.length ≤ n ∧ Finer W n ns g (rd l) D.length := by
 obtain ⟨D, hr, hn, hm, hd⟩ := roundG_eq ks 0 [] [] (List.replicate n 0) rfl (by simp [hl]) (by simp)
 simp only [List.nil_append] at hr hn hm hd
 refine ⟨D, _, hr, by simp [hl], ?_, ?_⟩
 ·have := nodup_len D ks hn hd
  omega
 have hrd : ∀ i : Nat, i < n → ∃ k, ks[i]? = some k ∧ k ∈ D ∧ rd (ks.map fun k => (D.idxOf k : Int)) i = (D.idxOf k : Int) := by
  intro i hi
  have hi' : i < ks.length := by omega
  refine ⟨ks[i], List.getElem?_eq_getElem hi', hm _ (List.getElem_mem hi'), ?_⟩
  simp [rd, List.getD_eq_getElem?_getD, List.getElem?_eq_getElem hi']
 have cast : ∀ i : Int, 0 ≤ i → i < (n : Int) → ∃ m : Nat, i = (m : Int) ∧ m < n := fun i h0 h1 => ⟨i.toNat, by omega, by omega⟩
 refine ⟨?_, ?_, ?_⟩
 ·intro i j i0 i1 j0 j1
  obtain ⟨i, rfl, hi⟩ := cast i i0 i1
  obtain ⟨j, rfl, hj⟩ := cast j j0 j1
  obtain ⟨a, ha, ham, har⟩ := hrd i hi
  obtain ⟨b, hb, hbm, hbr⟩ := hrd j hj
  rw [har, hbr, ← hk i j hi hj, ha, hb]
  constructor
  ·intro h
   have h' : D.idxOf a = D.idxOf b := by omega
   have e1 : D[D.idxOf a]? = some a := by rw [List.getElem?_eq_getElem (List.idxOf_lt_length_iff.2 ham), List.getElem_idxOf]
   have e2 : D[D.idxOf b]? = some b := by rw [List.getElem?_eq_getElem (List.idxOf_lt_length_iff.2 hbm), List.getElem_idxOf]
   rw [← Option.some.inj (e1.symm.trans ((congrArg (fun k => D[k]?) h').trans e2))]
  ·intro h
   injection h with h
   rw [h]
 ·intro i i0 i1
  obtain ⟨i, rfl, hi⟩ := cast i i0 i1
  obtain ⟨a, ha, ham, har⟩ := hrd i hi
  rw [har]
  have := List.idxOf_lt_length_iff.2 ham
  omega
 ·intro k hkD
  have hmem : D[k] ∈ ks := hd _ (List.getElem_mem hkD)
  obtain ⟨i, hi, he⟩ := List.getElem_of_mem hmem
  refine ⟨(i : Int), by omega, by omega, ?_⟩
  obtain ⟨a, ha, ham, har⟩ := hrd i (by omega)
  rw [har]
  rw [List.getElem?_eq_getElem hi, he] at ha
  obtain rfl := Option.some.inj ha
  rw [hn.idxOf_getElem]
end
def keysM (group : List Int) : List (List Int) → Nat → List (List UInt8)
 | [], _ => []
 | row :: rs, i => (Lib.itoa (rd group i) ++ tailKey (row.map (rd group))) :: keysM group rs (i + 1)
theorem keysM_len (group : List Int) : ∀ rs i, (keysM group rs i).length = rs.length := by
 intro rs
 induction rs with
 | nil => intro i; rfl
 | cons row rs ih => intro i; simp [keysM, ih]
theorem keysM_at (group : List Int) : ∀ (rs : List (List Int)) (i j : Nat), (keysM group rs i)[j]? = (rs[j]?).map fun row => Lib.itoa (rd group ((i + j : Nat) : Int)) ++ tailKey (row.map (rd group)) := by
 intro rs
 induction rs with
 | nil => intro i j; simp [keysM]
 | cons row rs ih =>
  intro i j
  cases j with
  | zero => simp [keysM]
  | succ j =>
   simp only [keysM, List.getElem?_cons_succ, ih]
   rw [show i + 1 + j = i + (j + 1) by omega]
theorem roundM_eq (group : List Int) : ∀ (rs : List (List Int)) (i : Nat) (keys : List (List UInt8)) (next : List Int), i + rs.length ≤ group.length → (∀ row ∈ rs, ∀ q ∈ row, 0 ≤ q ∧ q < (group.length : Int)) → roundM group rs i keys next = some (roundG (keysM group rs i) i keys next) := by
 intro rs
 induction rs with
 | nil => intro i keys next _ _; rfl
 | cons row rs ih =>
  intro i keys next hl h
  simp only [List.length_cons] at hl
  rw [roundM, at1_in (xs := group) (i := (i : Int)) (by omega) (by omega)]
  simp only [Option.bind_some]
  rw [keyL_eq group row _ (h row (by simp))]
  simp only [Option.bind_some, keysM, roundG]
  have e : rdOf 0 group (i : Int) = rd group (i : Int) := rfl
  rw [e]
  unfold idxG
  split
  ·exact ih (i + 1) _ _ (by omega) (fun r hr => h r (by simp [hr]))
  ·exact ih (i + 1) _ _ (by omega) (fun r hr => h r (by simp [hr]))
theorem rd_map {l : List Int} {g : Int → Int} {c : Int} (c0 : 0 ≤ c) (c1 : c < (l.length : Int)) : rd (l.map g) c = g (rd l c) := by
 have : c.toNat < l.length := by omega
 simp [rd, List.getD_eq_getElem?_getD, List.getElem?_eq_getElem this]
theorem map_ext_rd {l k : List Int} {g : Int → Int} {W : Nat} (hl : l.length = W) (hk : k.length = W) : l.map g = k.map g ↔ ∀ c, 0 ≤ c → c < (W : Int) → g (rd l c) = g (rd k c) := by
 constructor
 ·intro h c c0 c1
  rw [← rd_map (l := l) (g := g) c0 (by omega), ← rd_map (l := k) (g := g) c0 (by omega), h]
 ·intro h
  refine List.ext_getElem (by simp [hl, hk]) fun i h1 h2 => ?_
  simp only [List.length_map] at h1 h2
  have := h (i : Int) (by omega) (by omega)
  simpa [rd, List.getD_eq_getElem?_getD, List.getElem?_eq_getElem h1, List.getElem?_eq_getElem h2] using this
theorem roundM_finer {W n : Nat} {ns : List (List Int)} (hT : TableOK W n ns) {group : List Int} (hg : group.length = n) :
  ∃ D l, roundM group ns 0 [] (List.replicate group.length 0) = some (D, l) ∧ l.length = n ∧ D.length ≤ n ∧ Finer W n ns (rd group) (rd l) D.length := by
 have hks : (keysM group ns 0).length = n := by rw [keysM_len, hT.1]
 obtain ⟨D, l, hr, hl, hD, hf⟩ := round_finer (W := W) (ns := ns) (g := rd group) hks (by
  intro i j hi hj
  have hi' : i < ns.length := by rw [hT.1]; exact hi
  have hj' : j < ns.length := by rw [hT.1]; exact hj
  rw [keysM_at, keysM_at, List.getElem?_eq_getElem hi', List.getElem?_eq_getElem hj']
  simp only [Option.map_some, Option.some.injEq, Nat.zero_add]
  have ei : ∀ c, stp ns (i : Int) c = rd ns[i] c := fun c => by simp [stp, List.getD_eq_getElem?_getD, List.getElem?_eq_getElem hi']
  have ej : ∀ c, stp ns (j : Int) c = rd ns[j] c := fun c => by simp [stp, List.getD_eq_getElem?_getD, List.getElem?_eq_getElem hj']
  simp only [ei, ej]
  rw [← map_ext_rd (hT.2 _ (List.getElem_mem hi')).1 (hT.2 _ (List.getElem_mem hj')).1]
  constructor
  ·intro h
   obtain ⟨a, b⟩ := cut44 _ _ _ _ (itoa_no44 _) (itoa_no44 _) (tailKey_form _) (tailKey_form _) h
   exact ⟨itoa_inj _ _ a, tailKey_inj _ _ b⟩
  ·intro h
   rw [h.1, h.2])
 refine ⟨D, l, ?_, hl, hD, hf⟩
 rw [roundM_eq group ns 0 [] _ (by rw [hT.1]; omega) (fun row hrow q hq => by have := (hT.2 row hrow).2 q hq; omega), hg, hr]
theorem mergeL_some {W n : Nat} {ac : List Bool} {ns : List (List Int)} (hT : TableOK W n ns) : ∀ (f count : Nat) (group : List Int), group.length = n → ClassOK W n ac ns (rd group) → count ≤ n → (∀ k : Nat, k < count → ∃ i, 0 ≤ i ∧ i < (n : Int) ∧ rd group i = (k : Int)) → n + 1 ≤ f + count →
  ∃ g, mergeL ns f count group = some g ∧ g.length = n ∧ ClassEq W n ac ns (rd g) ∧ ∀ i, 0 ≤ i → i < (n : Int) → 0 ≤ rd g i ∧ rd g i < (n : Int) := by
 intro f
 induction f with
 | zero => intro count group _ _ h1 _ h2; omega
 | succ f ih =>
  intro count group hg hC hc hm hf
  obtain ⟨D, l, hr, hl, hD, hfin⟩ := roundM_finer hT hg
  simp only [mergeL, hr, Option.bind_some]
  by_cases e : D.length = count
  ·rw [if_pos e]
   subst e
   exact ⟨l, rfl, hl, hC.eq hT hfin hm, fun i i0 i1 => by have := hfin.lo i i0 i1; omega⟩
  ·rw [if_neg e]
   have := hfin.le hm
   exact ih _ _ hl (hC.next hT hfin) hD hfin.met (by omega)
theorem bitL_class {W n : Nat} {ac : List Bool} {ns : List (List Int)} (hn : ac.length = n) : ClassOK W n ac ns (rd (bitL ac)) := by
 have e : ∀ i : Int, rd (bitL ac) i = if rdOf false ac i then 1 else 0 := by
  intro i
  unfold rd bitL rdOf
  rw [List.getD_eq_getElem?_getD, List.getD_eq_getElem?_getD, List.getElem?_map]
  cases ac[i.toNat]? <;> simp
 refine ⟨fun i j i0 i1 j0 j1 h => ?_, fun i j i0 i1 j0 j1 h => ?_⟩
 ·have := congrFun h []
  simp only [lng] at this
  rw [e, e, this]
 ·rw [e, e] at h
  revert h
  cases rdOf false ac i <;> cases rdOf false ac j <;> simp
/-- Each class has one of its states. -/
theorem oneL_some {n m : Nat} {gr : List Int} (hgl : gr.length = n) (hgr : ∀ x ∈ gr, 0 ≤ x ∧ x < (m : Int)) : ∀ (l : List Int) (i : Nat) (one : List Int), (∀ j : Nat, j < l.length → l[j]? = gr[i + j]?) → i + l.length = n → one.length = m → (∀ g ∈ l, 0 ≤ g ∧ g < (m : Int)) →
  (∀ j : Nat, j < i → ∀ x, gr[j]? = some x → 0 ≤ rd one x ∧ rd one x < (n : Int) ∧ rd gr (rd one x) = x) →
  ∃ o, oneL l i one = some o ∧ o.length = m ∧ ∀ j : Nat, j < n → ∀ x, gr[j]? = some x → 0 ≤ rd o x ∧ rd o x < (n : Int) ∧ rd gr (rd o x) = x := by
 intro l
 induction l with
 | nil =>
  intro i one h1 h2 h3 h4 h5
  simp only [List.length_nil, Nat.add_zero] at h2
  subst h2
  exact ⟨one, rfl, h3, h5⟩
 | cons g l ih =>
  intro i one h1 h2 h3 h4 h5
  have hg := h4 g (by simp)
  have hgi : gr[i]? = some g := by simpa using (h1 0 (by simp)).symm
  rw [oneL, if_pos ⟨hg.1, by omega⟩]
  have rds : ∀ x, 0 ≤ x → rd (one.set g.toNat (i : Int)) x = if x = g then (i : Int) else rd one x := by
   intro x x0
   unfold rd
   rw [List.getD_eq_getElem?_getD, List.getD_eq_getElem?_getD, List.getElem?_set]
   by_cases e : x = g
   ·subst e
    rw [if_pos rfl, if_pos rfl, if_pos (by omega)]
    simp
   ·rw [if_neg (by omega), if_neg e]
  refine ih (i + 1) _ (fun j hj => ?_) (by simp only [List.length_cons] at h2; omega) (by simpa using h3) (fun g hg => h4 g (by simp [hg])) ?_
  ·have := h1 (j + 1) (by simp; omega)
   rw [List.getElem?_cons_succ] at this
   rw [this]
   congr 1
   omega
  ·intro j hj x hx
   have hx0 : 0 ≤ x := (hgr x (List.mem_of_getElem? hx)).1
   rw [rds x hx0]
   by_cases e : x = g
   ·rw [if_pos e]
    subst e
    simp only [List.length_cons] at h2
    exact ⟨by omega, by omega, by simp [rd, List.getD_eq_getElem?_getD, hgi]⟩
   ·rw [if_neg e]
    refine h5 j ?_ x hx
    by_cases e2 : j = i
    ·subst e2
     rw [hgi] at hx
     exact absurd (Option.some.inj hx).symm e
    ·omega
open Classical in
/-- The tidy table of a language: its states are languages. -/
noncomputable def tidyD (W f : Nat) (L : List Int → Bool) : Option (List Bool × List (List Int)) :=
 growL (fun _ => true) (fun L => some (L [])) (fun L c => some fun w => L (c :: w)) W f [L] [] []
theorem tidyD_same {W f g : Nat} {L : List Int → Bool} {r s : List Bool × List (List Int)} (h : tidyD W f L = some r) (h2 : tidyD W g L = some s) : r = s := by
 classical exact growL_same h h2
theorem rd_of {l : List Int} {i : Nat} {x : Int} (h : l[i]? = some x) : rd l (i : Int) = x := by
 simp [rd, List.getD_eq_getElem?_getD, h]
theorem get_rd {l : List Int} {i : Int} (h0 : 0 ≤ i) (h1 : i < (l.length : Int)) : l[i.toNat]? = some (rd l i) := by
 have : i.toNat < l.length := by omega
 simp [rd, List.getD_eq_getElem?_getD, List.getElem?_eq_getElem this]
theorem merged_law {W n : Nat} {ac : List Bool} {ns : List (List Int)} (hT : TableOK W n ns) (hn : ac.length = n) (h1 : n ≤ 1048576) {start : Int} (s0 : 0 ≤ start) (s1 : start < (n : Int)) {f : Nat} (hf : n + 2 ≤ f) :
  ∃ r, mergedF W f start ac ns = some r ∧ tidyD W f (lng W ac ns start) = some r := by
 obtain ⟨gr, hg, hgl, hE, hb⟩ := mergeL_some (W := W) (ac := ac) hT f 0 (bitL ac) (by simp [bitL, hn]) (bitL_class hn) (by omega) (fun k hk => by omega) (by omega)
 have hgr : ∀ x ∈ gr, 0 ≤ x ∧ x < (n : Int) := by
  intro x hx
  obtain ⟨i, hi, he⟩ := List.getElem_of_mem hx
  have := hb (i : Int) (by omega) (by omega)
  rw [rd_of (x := x) (by rw [List.getElem?_eq_getElem hi, he])] at this
  exact this
 obtain ⟨o, ho, hol, hoo⟩ := oneL_some (n := n) (m := n) hgl hgr gr 0 (List.replicate n 0) (fun j _ => by rw [Nat.zero_add]) (by omega) (by simp) hgr (fun j hj => by omega)
 have one : ∀ i, 0 ≤ i → i < (n : Int) → 0 ≤ rd o (rd gr i) ∧ rd o (rd gr i) < (n : Int) ∧ rd gr (rd o (rd gr i)) = rd gr i := by
  intro i i0 i1
  exact hoo i.toNat (by omega) _ (get_rd i0 (by omega))
 have lone : ∀ i, 0 ≤ i → i < (n : Int) → lng W ac ns (rd o (rd gr i)) = lng W ac ns i := by
  intro i i0 i1
  obtain ⟨a, b, c⟩ := one i i0 i1
  exact (hE _ _ a b i0 i1).1 c
 have hacc : ∀ i, 0 ≤ i → i < (n : Int) → accM o ac (rd gr i) = some (rdOf false ac i) := by
  intro i i0 i1
  obtain ⟨a, b, c⟩ := one i i0 i1
  obtain ⟨d, e⟩ := hb i i0 i1
  unfold accM
  rw [if_pos d, if_pos (by omega), if_pos a, if_pos (by omega)]
  have := congrFun (lone i i0 i1) []
  simp only [lng] at this
  rw [this]
 have hnext : ∀ i c, 0 ≤ i → i < (n : Int) → 0 ≤ c → c < (W : Int) → ∃ j, 0 ≤ j ∧ j < (n : Int) ∧ nextM gr o ns (rd gr i) c = some (rd gr j) ∧ lng W ac ns j = fun w => lng W ac ns i (c :: w) := by
  intro i c i0 i1 c0 c1
  obtain ⟨a, b, h⟩ := one i i0 i1
  obtain ⟨d, e⟩ := hb i i0 i1
  have hs := hT.stpd a b c0 c1
  refine ⟨stp ns (rd o (rd gr i)) c, hs.1, hs.2, ?_, ?_⟩
  ·have hrow := hT.row a b
   unfold nextM
   rw [at1_in d (by omega)]
   simp only [Option.bind_some]
   rw [show rdOf 0 o (rd gr i) = rd o (rd gr i) from rfl, at1_in a (by rw [hT.1]; exact b)]
   simp only [Option.bind_some]
   rw [show rdOf [] ns (rd o (rd gr i)) = ns.getD (rd o (rd gr i)).toNat [] from rfl, at1_in c0 (by rw [(hT.2 _ hrow).1]; exact c1)]
   simp only [Option.bind_some]
   exact at1_in (i := stp ns (rd o (rd gr i)) c) hs.1 (by omega)
  ·funext w
   have := congrFun (lone i i0 i1) (c :: w)
   rw [← this]
   simp [lng, c0, c1]
 have hin : ∀ i, 0 ≤ i → i < (n : Int) → inI64 (rd gr i) = true := by
  intro i i0 i1
  obtain ⟨d, e⟩ := hb i i0 i1
  simp only [inI64, Bool.and_eq_true, decide_eq_true_eq]
  omega
 have total : ∃ r, growL inI64 (accM o ac) (nextM gr o ns) W f [rd gr start] [] [] = some r := by
  refine growL_some (U := gr) (by omega) (fun k c hk c0 c1 => ?_) (fun k hk => ?_) f _ [] [] (by simp) (by intro k hk; simp at hk; subst hk; exact List.mem_of_getElem? (get_rd s0 (by omega))) (by simp) (by simp; omega)
  ·obtain ⟨i, hi, he⟩ := List.getElem_of_mem hk
   have ei : rd gr (i : Int) = k := rd_of (by rw [List.getElem?_eq_getElem hi, he])
   obtain ⟨j, j0, j1, hj, _⟩ := hnext i c (by omega) (by omega) c0 c1
   rw [ei] at hj
   exact ⟨_, hj, hin j j0 j1, List.mem_of_getElem? (get_rd j0 (by omega))⟩
  ·obtain ⟨i, hi, he⟩ := List.getElem_of_mem hk
   have ei : rd gr (i : Int) = k := rd_of (by rw [List.getElem?_eq_getElem hi, he])
   exact ⟨_, by rw [← ei]; exact hacc i (by omega) (by omega)⟩
 obtain ⟨r, hr⟩ := total
 refine ⟨r, ?_, ?_⟩
 ·unfold mergedF
  rw [hg]
  simp only [Option.bind_some]
  rw [hgl, ho]
  simp only [Option.bind_some]
  rw [at1_in s0 (by omega)]
  simp only [Option.bind_some]
  rw [show rdOf 0 gr start = rd gr start from rfl, if_pos (hin start s0 s1), hr]
 ·classical
  have := growL_map (φ := fun k => lng W ac ns (rd o k)) (S := fun k => ∃ i, 0 ≤ i ∧ i < (n : Int) ∧ rd gr i = k) (K' := List Int → Bool) (good' := fun _ => true) (acc' := fun L => some (L [])) (next' := fun L c => some fun w => L (c :: w)) (W := W)
   (by
    rintro a b ⟨i, i0, i1, rfl⟩ ⟨j, j0, j1, rfl⟩ h
    have h' : lng W ac ns (rd o (rd gr i)) = lng W ac ns (rd o (rd gr j)) := h
    rw [lone i i0 i1, lone j j0 j1] at h'
    exact (hE i j i0 i1 j0 j1).2 h')
   (by
    rintro k c t ⟨i, i0, i1, rfl⟩ c0 c1 ht
    obtain ⟨j, j0, j1, hj, hl⟩ := hnext i c i0 i1 c0 c1
    rw [hj] at ht
    obtain rfl := Option.some.inj ht
    refine ⟨⟨j, j0, j1, rfl⟩, ?_, rfl⟩
    show some (fun w => lng W ac ns (rd o (rd gr i)) (c :: w)) = some (lng W ac ns (rd o (rd gr j)))
    rw [lone i i0 i1, lone j j0 j1, hl])
   (by
    rintro k b ⟨i, i0, i1, rfl⟩ hb'
    rw [hacc i i0 i1] at hb'
    obtain rfl := Option.some.inj hb'
    show some (lng W ac ns (rd o (rd gr i)) []) = _
    rw [lone i i0 i1]
    rfl)
   f [rd gr start] [] [] r (by intro k hk; simp at hk; subst hk; exact ⟨start, s0, s1, rfl⟩) hr
  have e : ([rd gr start].map fun k => lng W ac ns (rd o k)) = [lng W ac ns start] := by
   simp only [List.map_cons, List.map_nil]
   rw [lone start s0 s1]
  rw [e] at this
  exact this
section
variable {K : Type} [DecidableEq K] {good : K → Bool} {acc : K → Option Bool} {next : K → Int → Option K} {W : Nat}
theorem growRow_row {nx : Int → Option K} : ∀ (m : Nat) (c : Int) (l : List K) (row : List Int) (l1 : List K) (row1 : List Int), growRow good nx m c l row = some (l1, row1) → l.length ≤ 1048576 →
  ∃ d e, l1 = l ++ d ∧ row1 = row ++ e ∧ e.length = m ∧ l1.length ≤ 1048576 ∧ (∀ k ∈ d, ∃ j : Nat, j < m ∧ nx (c + j) = some k) ∧ ∀ j : Nat, j < m → ∃ (t : K) (i : Nat), nx (c + j) = some t ∧ e[j]? = some (i : Int) ∧ l1[i]? = some t := by
 intro m
 induction m with
 | zero =>
  intro c l row l1 row1 h hl
  simp only [growRow, Option.some.injEq, Prod.mk.injEq] at h
  obtain ⟨rfl, rfl⟩ := h
  exact ⟨[], [], by simp, by simp, rfl, hl, by simp, by simp⟩
 | succ m ih =>
  intro c l row l1 row1 h hl
  simp only [growRow] at h
  obtain ⟨t, ht, h⟩ := Option.bind_eq_some_iff.mp h
  split at h
  ·split at h
   ·next e =>
    obtain ⟨d, e1, rfl, rfl, hm, hl1, hd, hj⟩ := ih _ _ _ _ _ h hl
    refine ⟨d, (l.idxOf t : Int) :: e1, rfl, by simp, by simp [hm], hl1, ?_, ?_⟩
    ·intro k hk
     obtain ⟨j, hj1, hj2⟩ := hd k hk
     exact ⟨j + 1, by omega, by rw [← hj2]; congr 1; omega⟩
    ·intro j hjm
     cases j with
     | zero => exact ⟨t, l.idxOf t, by simpa using ht, by simp, by rw [List.getElem?_append_left (List.idxOf_lt_length_iff.2 e), List.getElem?_eq_getElem (List.idxOf_lt_length_iff.2 e), List.getElem_idxOf]⟩
     | succ j =>
      obtain ⟨t', i, h1, h2, h3⟩ := hj j (by omega)
      exact ⟨t', i, by rw [← h1]; congr 1; omega, by simpa using h2, h3⟩
   ·split at h
    ·next e hlt =>
     obtain ⟨d, e1, rfl, rfl, hm, hl1, hd, hj⟩ := ih _ _ _ _ _ h (by simp; omega)
     refine ⟨t :: d, (l.length : Int) :: e1, by simp, by simp, by simp [hm], hl1, ?_, ?_⟩
     ·intro k hk
      rcases List.mem_cons.1 hk with rfl | hk
      ·exact ⟨0, by omega, by simpa using ht⟩
      ·obtain ⟨j, hj1, hj2⟩ := hd k hk
       exact ⟨j + 1, by omega, by rw [← hj2]; congr 1; omega⟩
     ·intro j hjm
      cases j with
      | zero => exact ⟨t, l.length, by simpa using ht, by simp, by simp⟩
      | succ j =>
       obtain ⟨t', i, h1, h2, h3⟩ := hj j (by omega)
       exact ⟨t', i, by rw [← h1]; congr 1; omega, by simpa using h2, h3⟩
    ·cases h
  ·cases h
/-- The rows and marks made so far, of the states l. -/
structure GrownOK (acc : K → Option Bool) (next : K → Int → Option K) (W : Nat) (S : K → Prop) (l : List K) (bs : List Bool) (rs : List (List Int)) : Prop where
 len : rs.length = bs.length
 le : bs.length ≤ l.length
 few : l.length ≤ 1048576
 all : ∀ k ∈ l, S k
 acc : ∀ (i : Nat) b, bs[i]? = some b → ∃ k, l[i]? = some k ∧ acc k = some b
 row : ∀ (i : Nat) row, rs[i]? = some row → row.length = W ∧ ∃ k, l[i]? = some k ∧ ∀ j : Nat, j < W → ∃ (t : K) (q : Nat), next k j = some t ∧ row[j]? = some (q : Int) ∧ l[q]? = some t
theorem get_app {α : Type} {l d : List α} {i : Nat} {k : α} (h : l[i]? = some k) : (l ++ d)[i]? = some k := by
 rw [List.getElem?_append_left (List.getElem?_eq_some_iff.1 h).1]; exact h
theorem growL_grown {S : K → Prop} (hS : ∀ k c t, S k → 0 ≤ c → c < (W : Int) → next k c = some t → S t) : ∀ (f : Nat) (l : List K) (bs : List Bool) (rs : List (List Int)) (r : List Bool × List (List Int)), GrownOK acc next W S l bs rs → growL good acc next W f l bs rs = some r →
  ∃ d, GrownOK acc next W S (l ++ d) r.1 r.2 ∧ r.1.length = (l ++ d).length := by
 intro f
 induction f with
 | zero => intro l bs rs r _ h; simp [growL] at h
 | succ f ih =>
  intro l bs rs r hG h
  simp only [growL] at h
  cases e : l[bs.length]? with
  | none =>
   rw [e] at h
   obtain rfl := Option.some.inj h
   refine ⟨[], by simpa using hG, ?_⟩
   have := List.getElem?_eq_none_iff.1 e
   have := hG.le
   simp
   omega
  | some k =>
   rw [e] at h
   simp only at h
   obtain ⟨p, hp, h⟩ := Option.bind_eq_some_iff.mp h
   obtain ⟨b, hb, h⟩ := Option.bind_eq_some_iff.mp h
   obtain ⟨p1, p2⟩ := p
   obtain ⟨d, e1, rfl, rfl, hm, hl1, hd, hj⟩ := growRow_row _ _ _ _ _ _ hp hG.few
   have hk : S k := hG.all k (List.mem_of_getElem? e)
   have hlt := (List.getElem?_eq_some_iff.1 e).1
   have hG' : GrownOK acc next W S (l ++ d) (bs ++ [b]) (rs ++ [p2]) := by
    refine ⟨by simp [hG.len], by simp; omega, hl1, ?_, ?_, ?_⟩
    ·intro x hx
     rcases List.mem_append.1 hx with hx | hx
     ·exact hG.all x hx
     ·obtain ⟨j, hj1, hj2⟩ := hd x hx
      exact hS k _ x hk (by omega) (by omega) hj2
    ·intro i b' hb'
     by_cases ei : i < bs.length
     ·rw [List.getElem?_append_left ei] at hb'
      obtain ⟨k', h1, h2⟩ := hG.acc i b' hb'
      exact ⟨k', get_app h1, h2⟩
     ·have hi : i = bs.length := by
       have := (List.getElem?_eq_some_iff.1 hb').1
       simp at this
       omega
      subst hi
      rw [List.getElem?_append_right (Nat.le_refl _)] at hb'
      simp at hb'
      subst hb'
      exact ⟨k, get_app e, hb⟩
    ·intro i row hr
     by_cases ei : i < rs.length
     ·rw [List.getElem?_append_left ei] at hr
      obtain ⟨h0, k', h1, h2⟩ := hG.row i row hr
      refine ⟨h0, k', get_app h1, fun j hjW => ?_⟩
      obtain ⟨t, q, a, b', c⟩ := h2 j hjW
      exact ⟨t, q, a, b', get_app c⟩
     ·have hi : i = rs.length := by
       have := (List.getElem?_eq_some_iff.1 hr).1
       simp at this
       omega
      subst hi
      rw [List.getElem?_append_right (Nat.le_refl _)] at hr
      simp at hr
      subst hr
      refine ⟨by simpa using hm, k, get_app (by rw [hG.len]; exact e), fun j hjW => ?_⟩
      obtain ⟨t, q, a, b', c⟩ := hj j hjW
      exact ⟨t, q, by rw [← a]; congr 1; omega, by simpa using b', c⟩
   obtain ⟨d', h1, h2⟩ := ih _ _ _ _ hG' h
   exact ⟨d ++ d', by simpa using h1, by simpa using h2⟩
theorem growL_table {S : K → Prop} {Λ : K → List Int → Bool} (hS : ∀ k c t, S k → 0 ≤ c → c < (W : Int) → next k c = some t → S t ∧ ∀ w, Λ k (c :: w) = Λ t w) (ha : ∀ k b, S k → acc k = some b → Λ k [] = b) (ho : ∀ k c w, ¬ (0 ≤ c ∧ c < (W : Int)) → Λ k (c :: w) = false)
  {start : K} (h0 : S start) {f : Nat} {r : List Bool × List (List Int)} (h : growL good acc next W f [start] [] [] = some r) :
  TableOK W r.1.length r.2 ∧ 0 < r.1.length ∧ r.1.length ≤ 1048576 ∧ lng W r.1 r.2 0 = Λ start := by
 obtain ⟨d, hG, hlen⟩ := growL_grown (fun k c t a b c' e => (hS k c t a b c' e).1) f [start] [] [] r ⟨rfl, by simp, by simp, by intro k hk; simp at hk; exact hk ▸ h0, by simp, by simp⟩ h
 have hpos : 0 < r.1.length := by rw [hlen]; simp
 have hT : TableOK W r.1.length r.2 := by
  refine ⟨hG.len, fun row hrow => ?_⟩
  obtain ⟨i, hi, he⟩ := List.getElem_of_mem hrow
  obtain ⟨hW, k, _, hj⟩ := hG.row i row (by rw [List.getElem?_eq_getElem hi, he])
  refine ⟨hW, fun x hx => ?_⟩
  obtain ⟨j, hj1, hj2⟩ := List.getElem_of_mem hx
  obtain ⟨t, q, _, h2, h3⟩ := hj j (by omega)
  rw [List.getElem?_eq_getElem hj1, hj2] at h2
  obtain rfl := Option.some.inj h2
  have := (List.getElem?_eq_some_iff.1 h3).1
  omega
 refine ⟨hT, hpos, by rw [hlen]; exact hG.few, ?_⟩
 have key : ∀ (w : List Int) (i : Nat) (k : K), ([start] ++ d)[i]? = some k → lng W r.1 r.2 (i : Int) w = Λ k w := by
  intro w
  induction w with
  | nil =>
   intro i k hk
   have hi := (List.getElem?_eq_some_iff.1 hk).1
   obtain ⟨k', h1, h2⟩ := hG.acc i r.1[i] (List.getElem?_eq_getElem (by omega))
   rw [hk] at h1
   obtain rfl := Option.some.inj h1
   rw [ha k _ (hG.all k (List.mem_of_getElem? hk)) h2]
   simp [lng, rdOf, List.getD_eq_getElem?_getD, List.getElem?_eq_getElem (show i < r.1.length by omega)]
  | cons c w ih =>
   intro i k hk
   have hi := (List.getElem?_eq_some_iff.1 hk).1
   by_cases hc : 0 ≤ c ∧ c < (W : Int)
   ·obtain ⟨hW, k', h1, h2⟩ := hG.row i (r.2[i]'(by rw [hG.len]; omega)) (List.getElem?_eq_getElem _)
    rw [hk] at h1
    obtain rfl := Option.some.inj h1
    obtain ⟨t, q, a, b, c'⟩ := h2 c.toNat (by omega)
    rw [show ((c.toNat : Nat) : Int) = c by omega] at a
    have hs : stp r.2 (i : Int) c = (q : Int) := by
     simp only [stp, rd, Int.toNat_natCast]
     rw [List.getD_eq_getElem?_getD, List.getD_eq_getElem?_getD, List.getElem?_eq_getElem (show i < r.2.length by rw [hG.len]; omega)]
     simp only [Option.getD_some]
     rw [b]
     rfl
    obtain ⟨_, hΛ⟩ := hS k c t (hG.all k (List.mem_of_getElem? hk)) hc.1 hc.2 a
    simp only [lng, hc, decide_true, Bool.true_and]
    rw [hs, ih q t c', hΛ]
   ·rw [ho k c w hc]
    simp only [lng]
    by_cases c0 : 0 ≤ c
    ·simp [show ¬ c < (W : Int) from fun h => hc ⟨c0, h⟩]
    ·simp [c0]
 funext w
 exact key w 0 start (by simp)
end
end Go.Proofs.YtbkcllfgolmloaaDoor.X

namespace Go.Proofs.YtbkcllfgolmloaaDoor.X
open Go Go.RowKit Go.Proofs.YtbkcllfgolmloaaDoorW.PrintWords Go.Proofs.YtbkcllfgolmloaaDoorW.PrintLast Go.Proofs.YtbkcllfgolmloaaDoorW.PrintMore
set_option linter.unusedVariables false
set_option linter.unusedSimpArgs false
def lngR (W : Nat) (pads : List Int) (ac : List Bool) (ns : List (List Int)) : Int × Int → List Int → Bool
 | x, [] => decide (0 ≤ x.2) && rdOf false ac x.1
 | x, c :: w => decide (0 ≤ c) && (decide (c < (W : Int)) && (decide (0 ≤ x.2) && (decide (bits .andNot .i64 x.2 (rd pads c) = 0) && lngR W pads ac ns (stp ns x.1 c, rd pads c) w)))
theorem lngR_dead (W : Nat) (pads : List Int) (ac : List Bool) (ns : List (List Int)) (q : Int) (w : List Int) : lngR W pads ac ns (q, -1) w = false := by
 cases w <;> simp [lngR]
theorem rd_range {l : List Int} {p : Int → Prop} (h : ∀ x ∈ l, p x) {i : Int} (h0 : 0 ≤ i) (h1 : i < (l.length : Int)) : p (rd l i) := by
 have : i.toNat < l.length := by omega
 unfold rd
 rw [List.getD_eq_getElem?_getD, List.getElem?_eq_getElem this]
 exact h _ (List.getElem_mem this)
theorem places_law {W n : Nat} {pads : List Int} {ac : List Bool} {ns : List (List Int)} (hT : TableOK W n ns) (hn : ac.length = n) (hp : pads.length = W) (hp8 : ∀ x ∈ pads, 0 ≤ x ∧ x < 8) (hn2 : n ≤ 100000) {start : Int} (s0 : 0 ≤ start) (s1 : start < (n : Int)) {f : Nat} (hf : 1048578 ≤ f) :
  ∃ r, growL good2 (accT ac) (nextT pads ns) W f [(start, 0)] [] [] = some r ∧ TableOK W r.1.length r.2 ∧ 0 < r.1.length ∧ r.1.length ≤ 1048576 ∧ lng W r.1 r.2 0 = lngR W pads ac ns (start, 0) := by
 have hS : ∀ k c, (k = ((0 : Int), (-1 : Int)) ∨ (0 ≤ k.1 ∧ k.1 < (n : Int) ∧ 0 ≤ k.2 ∧ k.2 < 8)) → 0 ≤ c → c < (W : Int) → ∃ t, nextT pads ns k c = some t ∧ (t = ((0 : Int), (-1 : Int)) ∨ (0 ≤ t.1 ∧ t.1 < (n : Int) ∧ 0 ≤ t.2 ∧ t.2 < 8)) ∧ ∀ w, lngR W pads ac ns k (c :: w) = lngR W pads ac ns t w := by
  intro k c hk c0 c1
  rcases hk with rfl | ⟨k0, k1, k2, k3⟩
  ·exact ⟨(0, -1), by unfold nextT; rw [if_pos (by show (-1 : Int) < 0; omega)], .inl rfl, fun w => by rw [lngR_dead, lngR_dead]⟩
  ·have hpc := rd_range hp8 c0 (by omega)
   unfold nextT
   rw [if_neg (by omega), at1_in c0 (by omega)]
   simp only [Option.bind_some]
   rw [show rdOf 0 pads c = rd pads c from rfl]
   by_cases hb : bits .andNot .i64 k.2 (rd pads c) = 0
   ·rw [if_pos hb]
    have hst := hT.stpd k0 k1 c0 c1
    have hrow := hT.row k0 k1
    rw [at1_in k0 (by rw [hT.1]; exact k1)]
    simp only [Option.bind_some]
    rw [show rdOf [] ns k.1 = ns.getD k.1.toNat [] from rfl, at1_in c0 (by rw [(hT.2 _ hrow).1]; exact c1)]
    simp only [Option.bind_some]
    refine ⟨_, rfl, .inr ⟨hst.1, hst.2, hpc.1, hpc.2⟩, fun w => ?_⟩
    simp only [lngR, c0, c1, k2, hb, decide_true, Bool.true_and]
    rfl
   ·rw [if_neg hb]
    refine ⟨_, rfl, .inl rfl, fun w => ?_⟩
    rw [lngR_dead]
    simp [lngR, hb]
 have hA : ∀ k : Int × Int, (k = ((0 : Int), (-1 : Int)) ∨ (0 ≤ k.1 ∧ k.1 < (n : Int) ∧ 0 ≤ k.2 ∧ k.2 < 8)) → ∃ b, accT ac k = some b ∧ lngR W pads ac ns k [] = b := by
  intro k hk
  rcases hk with rfl | ⟨k0, k1, k2, k3⟩
  ·exact ⟨false, by unfold accT; rw [if_neg (by show ¬ (0 : Int) ≤ -1; omega)], lngR_dead _ _ _ _ _ _⟩
  ·exact ⟨rdOf false ac k.1, by unfold accT; rw [if_pos k2, at1_in k0 (by omega)], by simp [lngR, k2]⟩
 let U : List (Int × Int) := ((0 : Int), (-1 : Int)) :: (List.range n).flatMap fun (a : Nat) => (List.range 8).map fun (b : Nat) => ((a : Int), (b : Int))
 have hUl : U.length = n * 8 + 1 := by
  simp only [U, List.length_cons, List.length_flatMap, List.length_map, List.length_range, List.map_const', List.sum_replicate_nat]
 have hU : ∀ k : Int × Int, k ∈ U ↔ (k = ((0 : Int), (-1 : Int)) ∨ (0 ≤ k.1 ∧ k.1 < (n : Int) ∧ 0 ≤ k.2 ∧ k.2 < 8)) := by
  intro k
  simp only [U, List.mem_cons, List.mem_flatMap, List.mem_range, List.mem_map]
  constructor
  ·rintro (h | ⟨a, ha, b, hb, rfl⟩)
   ·exact .inl h
   ·exact .inr ⟨by simp, by simp; omega, by simp, by simp; omega⟩
  ·rintro (h | ⟨h0, h1, h2, h3⟩)
   ·exact .inl h
   ·exact .inr ⟨k.1.toNat, by omega, k.2.toNat, by omega, Prod.ext (by simp; omega) (by simp; omega)⟩
 have hst : (start, (0 : Int)) ∈ U := (hU _).2 (.inr ⟨s0, s1, by simp, by simp⟩)
 have total : ∃ r, growL good2 (accT ac) (nextT pads ns) W f [(start, 0)] [] [] = some r := by
  refine growL_some (U := U) (by rw [hUl]; omega) (fun k c hk c0 c1 => ?_) (fun k hk => ?_) f _ [] [] (by simp) (by intro k hk; simp at hk; subst hk; exact hst) (by simp) (by rw [hUl]; simp; omega)
  ·obtain ⟨t, ht, hSt, _⟩ := hS k c ((hU k).1 hk) c0 c1
   refine ⟨t, ht, ?_, (hU t).2 hSt⟩
   rcases hSt with rfl | ⟨t0, t1, t2, t3⟩
   ·decide
   ·simp only [good2, inI64, Bool.and_eq_true, decide_eq_true_eq]
    omega
  ·obtain ⟨b, hb, _⟩ := hA k ((hU k).1 hk)
   exact ⟨b, hb⟩
 obtain ⟨r, hr⟩ := total
 have ht := growL_table (S := fun k => k = ((0 : Int), (-1 : Int)) ∨ (0 ≤ k.1 ∧ k.1 < (n : Int) ∧ 0 ≤ k.2 ∧ k.2 < 8)) (Λ := lngR W pads ac ns)
  (fun k c t hk c0 c1 ht => by obtain ⟨t', ht', h1, h2⟩ := hS k c hk c0 c1; rw [ht] at ht'; obtain rfl := Option.some.inj ht'; exact ⟨h1, h2⟩)
  (fun k b hk hb => by obtain ⟨b', hb', h⟩ := hA k hk; rw [hb] at hb'; obtain rfl := Option.some.inj hb'; exact h)
  (fun k c w hc => by
   simp only [lngR]
   by_cases c0 : 0 ≤ c
   ·simp [show ¬ c < (W : Int) from fun h => hc ⟨c0, h⟩]
   ·simp [c0])
  (.inr ⟨s0, s1, by simp, by simp⟩) hr
 exact ⟨r, hr, ht⟩
/-- 'tidy' makes the tidy table of the right language. -/
theorem tidy_law {W n : Nat} {pads : List Int} {ac : List Bool} {ns : List (List Int)} (hT : TableOK W n ns) (hn : ac.length = n) (hp : pads.length = W) (hp8 : ∀ x ∈ pads, 0 ≤ x ∧ x < 8) (hn2 : n ≤ 100000) (hW : W ≤ 1000) {start : Int} (s0 : 0 ≤ start) (s1 : start < (n : Int)) {f : Nat} (hf : 1048578 ≤ f) :
  ∃ p r, growL good2 (accT ac) (nextT pads ns) W f [(start, 0)] [] [] = some p ∧ (p.1.length ≤ 1048576 ∧ p.2.length = p.1.length ∧ ∀ row ∈ p.2, row.length ≤ 1000) ∧ mergedF W f 0 p.1 p.2 = some r ∧ tidyD W f (lngR W pads ac ns (start, 0)) = some r := by
 obtain ⟨p, hp1, hT2, hpos, hle, hl⟩ := places_law hT hn hp hp8 hn2 s0 s1 hf
 obtain ⟨r, hr, hd⟩ := merged_law hT2 rfl hle (start := 0) (by omega) (by omega) (f := f) (by omega)
 exact ⟨p, r, hp1, ⟨hle, hT2.1, fun row hrow => by rw [(hT2.2 row hrow).1]; exact hW⟩, hr, by rw [← hl]; exact hd⟩
end Go.Proofs.YtbkcllfgolmloaaDoor.X

