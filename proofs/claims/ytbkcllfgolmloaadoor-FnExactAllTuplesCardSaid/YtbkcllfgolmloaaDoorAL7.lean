import Derived.Test.YtbkcllfgolmloaaDoorAL2
import Derived.Test.YtbkcllfgolmloaaDoorAL3
import Derived.Test.YtbkcllfgolmloaaDoorAL6
import Derived.Test.YtbkcllfgolmloaaDoorAL5
import Derived.Carry
import Derived.Test.YtbkcllfgolmloaaDoorAL4
import Derived.Outline
-- Written by a program of this claim's author, out of the translation.
namespace Go.Proofs.YtbkcllfgolmloaaDoor.X
open Go.RowKit Go.Proofs.YtbkcllfgolmloaaDoorW.PrintWords Go.Proofs.YtbkcllfgolmloaaDoorW.PrintLast Go.Proofs.YtbkcllfgolmloaaDoorW.PrintMore
attribute [local go_sem] max2_int min2_int max_two min_two max_three min_three max_four min_four   -- for this text's walks alone
set_option linter.unusedVariables false
set_option linter.unusedSimpArgs false
def spec_AllTuples.l0 : Nat → Int → List Int → Int → Option (Int × Int × List Bool × (List (List Int)) × Int)
 | 0, _, _, _ => none
 | k + 1, x0, x4, x5 => (spec_l01Wide.f k x0).bind fun t390 => (if x5 < t390 then (if x4.length < 17592186044416 then (spec_AllTuples.l0 k x0 (x4 ++ [0]) (wrap64 (x5 + 1))) else (none)) else ((spec_l01Tidied_v.f k x0 0 (([true] : List Bool)) (([x4] : List (List Int)))).bind fun bt401 => (some (bt401.1, bt401.2.1, bt401.2.2.1, bt401.2.2.2, 0))))
def spec_AllTuples.f (k : Nat) (a0 : Int) : Option (Int × Int × List Bool × (List (List Int)) × Int) := (spec_l00In.f a0 1 3).bind fun t386 => (if t386 = true then (spec_AllTuples.l0 k a0 (([] : List Int)) 0) else (some (0, 0, ([] : List Bool), ([] : List (List Int)), 2)))
set_option maxHeartbeats 8000000 in
set_option maxRecDepth 100000 in
theorem spec_AllTuples.calls (k : Nat) (a0 : Int) (r1 : Int) (r2 : Int) (r3 : List Bool) (r4 : List (List Int)) (r5 : Int) (w : World) (h : spec_AllTuples.f k a0 = some (r1, r2, r3, r4, r5)) :
  Calls Tryd.prog 26 #[.int .i64 a0] w fun e w' => ∃ v2_ v3_ : Value, e = .returned (.tuple #[.agg #[.int .i64 r1, .int .i64 r2, v2_, v3_], .int .i64 r5]) ∧ Kd.R Kd.bool 4 w' w.heap.size (fun k_ => (w.heap.size ≤ k_)) v2_ r3 ∧ Kd.N (Kd.slice 2 (Kd.int .i64)) 55 w' w.heap.size (fun k_ => (w.heap.size ≤ k_) ∧ some k_ ≠ (v2_ : Value).ownBlock) v3_ r4 ∧ Below w.heap.size w w' := by
 have hu28 := Tryd.underlying28
 have HB := Aside0.mk (Below.refl w.heap.size w)
 have H : ((spec_l00In.f a0 1 3).bind fun t386 => (if t386 = true then (spec_AllTuples.l0 k a0 (([] : List Int)) 0) else (some (0, 0, ([] : List Bool), ([] : List (List Int)), 2)))) = some (r1, r2, r3, r4, r5) := h
 clear h
 replace H := Option.bind_eq_some_iff.mp H
 obtain ⟨t386, A20, H⟩ := H
 replace H : (if t386 = true then (spec_AllTuples.l0 k a0 (([] : List Int)) 0) else (some (0, 0, ([] : List Bool), ([] : List (List Int)), 2))) = some (r1, r2, r3, r4, r5) := H
 have A2 := Aside0.mk A20
 clear A20
 by_cases c3 : t386 = true
 ·subst c3
  have H1 : (spec_AllTuples.l0 k a0 (([] : List Int)) 0) = some (r1, r2, r3, r4, r5) := by rw [if_pos rfl] at H; exact H
  clear H
  have H := H1
  clear H1
  obtain ⟨y387, hy387⟩ : ∃ y_ : List Int, y_ = (([] : List Int)) := ⟨_, rfl⟩
  replace H : (spec_AllTuples.l0 k a0 y387 0) = some (r1, r2, r3, r4, r5) := by first | (rw [hy387]; with_reducible exact H) | (have H2_ := (Option.bind_some _ _).symm.trans H; rw [hy387]; with_reducible exact H2_) | (have H2_ := (Option.bind_some _ _).symm.trans H; with_reducible exact H2_) | with_reducible exact H | (rw [hy387]; exact H) | exact H
  have Ny387 := Aside0.mk hy387
  clear hy387
  have H' := Aside0.mk H
  clear H
  go_enter Tryd.func26, Tryd.ntmps26
  go_wp2_with (first | ((with_reducible refine gate_dst (N := 2) rfl ?_); refine box_event ?hg (N := 2) ?hd (cs := #[.int .i64 0, .int .i64 0, .slice none 0 0, .slice none 0 0]) (t := 28) ?hr ?_; (case hd => rfl); (case hg => rfl); (case hr => first | (go_simp; done) | (go_simp; rfl)); intro gb385 hg w4 hbox hb; have n0_ := Aside0.mk (below_step (by repeat (first | (with_reducible first | exact HB.out | apply below_alloc | apply pw_below_drewN | apply below_drew1) | exact HB.out)) hb); have n1_ := Aside0.mk (hbox); have n2_ := Aside0.mk ((by rw [hg]; exact (below_size (by repeat (first | (with_reducible first | exact HB.out | apply below_alloc | apply pw_below_drewN | apply below_drew1) | exact HB.out))) : w.heap.size ≤ gb385)); have n3_ := Aside0.mk ((by rw [hg]; exact (below_size (by repeat (first | (with_reducible first | exact HB.out | apply below_alloc | apply pw_below_drewN | apply below_drew1) | exact HB.out))) : w.heap.size ≤ gb385)); clear HB; have HB := n0_; have BK385 := n1_; have GW385 := n2_; have GE385 := n3_; clear n0_ n1_ n2_ n3_; clear hb hbox hg) | ((with_reducible refine gate_callee (f := 65) rfl ?_); refine goesL_ (some 7) rfl rfl Tryd.func65 (by kernel_rfl) rfl #[.int .i64 a0, .int .i64 1, .int .i64 3] rfl (by (try simp only [List.map_toArray, List.map_cons, List.map_nil]); first | done | rfl | (simp only [List.length_drop, List.length_take]; rfl)) ?_; (with_reducible refine (spec_l00In.calls a0 1 3 true _ A2.out).mono ?_); rintro e w' ⟨rfl, ⟨nd, rfl⟩⟩; refine ⟨_, rfl, ?_⟩) | ((with_reducible refine gate_dst (N := 10) rfl ?_); refine Kd.R_lit (Kd.int .i64) _ 2 ?hg (N := 10) ?hd (xs := ([] : List Int)) (inner := []) (ok := fun _ => True) (okp := fun _ => True) ?hr ?hp (fun _ hk => hk) trivial (Below.refl _ _) (Nat.le_refl _) (by simp) ?_; (case hd => rfl); (case hg => rfl); (case hr => first | (go_simp; done) | (go_simp; rfl)); (case hp => exact (Reps.none _ _)); intro v388 w5 ho6 hb hg_ hnew_; clear hg_ hnew_; (first | rw [← Ny387.out] at ho6 | (simp only [Int.reduceToNat] at ho6; rw [← Ny387.out] at ho6)); have n0_ := Aside0.mk (Kd.R_lower (Kd.R_newM (M := fun k_ => (w.heap.size ≤ k_)) ho6 (below_size (by repeat (first | (with_reducible first | exact HB.out | apply below_alloc | apply pw_below_drewN | apply below_drew1 | refine below_set ?_ GE385.out) | exact HB.out))) (fun k_ h_ => h_)) (below_size (by repeat (first | (with_reducible first | exact HB.out | apply below_alloc | apply pw_below_drewN | apply below_drew1 | refine below_set ?_ GE385.out) | exact HB.out)))); have n1_ := Aside0.mk (blk_below (g := gb385) (o := .cells #[.int .i64 0, .int .i64 0, .slice none 0 0, .slice none 0 0] 28 (0, 0)) (by (with_reducible repeat (first | refine blk_drewN ?_ _ | refine blk_drew ?_ | refine blk_alloc ?_ _)); exact BK385.out) hb); have n2_ := Aside0.mk (below_step (by repeat (first | (with_reducible first | exact HB.out | apply below_alloc | apply pw_below_drewN | apply below_drew1 | refine below_set ?_ GE385.out) | exact HB.out)) hb); clear BK385; clear HB; have HO389 := n0_; have BK385 := n1_; have HB := n2_; clear n0_ n1_ n2_; clear hb ho6))
  go_loopg [4, 5] k (fun kq v4 v5 w' => ∃ (x4_1 : List Int) (x5_1 : Int), v5 = .int .i64 x5_1 ∧ Aside0 (spec_AllTuples.l0 kq a0 x4_1 x5_1 = some (r1, r2, r3, r4, r5)) ∧ Aside0 (kq ≤ k) ∧ Aside0 (Kd.R (Kd.int .i64) 2 w' w.heap.size (fun k_ => (w.heap.size ≤ k_)) v4 x4_1) ∧ Aside0 (w'.heap[gb385]? = some (.cells #[.int .i64 0, .int .i64 0, (.slice none 0 0), (.slice none 0 0)] 28 (0, 0))) ∧ Aside0 (Below w.heap.size w w'))
  case atStart => exact ⟨(y387), (0), (by first | rfl | (simp; done) | (simp [*]; done)), H', ⟨Nat.le_refl _⟩, ⟨by (with_reducible repeat (first | apply Kd.R_alloc | apply Kd.R_drewN | apply Kd.R_drew)); exact Kd.R_mono HO389.out (fun _ hk => hk.1)⟩, ⟨by (with_reducible repeat (first | refine blk_drewN ?_ _ | refine blk_drew ?_ | refine blk_alloc ?_ _)); exact BK385.out⟩, ⟨by repeat (first | (with_reducible first | exact HB.out | apply below_alloc | apply pw_below_drewN | apply below_drew1 | refine below_set ?_ GE385.out) | exact HB.out)⟩⟩
  case round =>
   clear H'
   try clear c2
   try clear p2
   try clear c3
   try clear c6
   obtain ⟨x4_1, x5_1, rfl, HA, HK1, HO_4, BK385, HB⟩ := hrel
   cases gk with
   | zero => exact absurd HA.out (by simp [spec_AllTuples.l0])
   | succ k1 =>
    have H := HA.out
    clear HA
    simp only [spec_AllTuples.l0] at H
    replace H := Option.bind_eq_some_iff.mp H
    obtain ⟨t390, A70, H⟩ := H
    replace H : (if x5_1 < t390 then (if x4_1.length < 17592186044416 then (spec_AllTuples.l0 k1 a0 (x4_1 ++ [0]) (wrap64 (x5_1 + 1))) else (none)) else ((spec_l01Tidied_v.f k1 a0 0 (([true] : List Bool)) (([x4_1] : List (List Int)))).bind fun bt401 => (some (bt401.1, bt401.2.1, bt401.2.2.1, bt401.2.2.2, 0)))) = some (r1, r2, r3, r4, r5) := H
    have A7 := Aside0.mk A70
    clear A70
    by_cases c8 : x5_1 < t390
    ·rw [if_pos c8] at H
     have c8b0 : decide (x5_1 < t390) = true := decide_eq_true c8
     clear c8
     by_cases c9 : x4_1.length < 17592186044416
     ·rw [if_pos c9] at H
      have LMc9 := Aside0.mk c9
      clear c9
      obtain ⟨y391, hy391⟩ : ∃ y_ : List Int, y_ = (x4_1 ++ [0]) := ⟨_, rfl⟩
      replace H : (spec_AllTuples.l0 k1 a0 y391 (wrap64 (x5_1 + 1))) = some (r1, r2, r3, r4, r5) := by first | (rw [hy391]; with_reducible exact H) | (have H2_ := (Option.bind_some _ _).symm.trans H; rw [hy391]; with_reducible exact H2_) | (have H2_ := (Option.bind_some _ _).symm.trans H; with_reducible exact H2_) | with_reducible exact H | (rw [hy391]; exact H) | exact H
      have Ny391 := Aside0.mk hy391
      clear hy391
      have H' := Aside0.mk H
      clear H
      go_wp2_with (first | ((with_reducible refine gate_callee (f := 66) rfl ?_); refine goesL_ (some 13) rfl rfl Tryd.func66 (by kernel_rfl) rfl #[.int .i64 a0] rfl (by (try simp only [List.map_toArray, List.map_cons, List.map_nil]); first | done | rfl | (simp only [List.length_drop, List.length_take]; rfl)) ?_; (with_reducible refine (spec_l01Wide.calls k1 a0 t390 _ A7.out).mono ?_); rintro e w' ⟨rfl, ⟨nd, rfl⟩⟩; refine ⟨_, rfl, ?_⟩) | ((with_reducible refine gate_builtin (b := .append) (xs := #[.tmp 17, .tmp 18]) rfl ?_); at_builtin; refine Kd.R_append (Kd.int .i64) (w0 := w) w.heap.size rfl (.tmp 17) (.tmp 18) 55 2 (.int .i64 0) 8 rfl Tryd.underlying55 info2 rfl (by decide) (by omega) u4 x4_1 0 [.int .i64 0] (fun k_ => (w.heap.size ≤ k_)) (fun _ => False) rfl rfl ?aP (fun _ hk => hk.elim) ?aF ?aO ?aB ?aS ?aL ?_; (case aP => exact rfl); (case aB => exact (by repeat (first | (with_reducible first | exact HB.out | apply below_alloc | apply pw_below_drewN | apply below_drew1 | refine below_set ?_ GE385.out) | exact HB.out))); (case aF => exact (fun k_ hk => (Nat.le_trans (below_size (by repeat (first | (with_reducible first | exact HB.out | apply below_alloc | apply pw_below_drewN | apply below_drew1 | refine below_set ?_ GE385.out) | exact HB.out))) hk))); (case aO => exact (by (with_reducible repeat (first | apply Kd.R_alloc | apply Kd.R_drewN | apply Kd.R_drew)); exact HO_4.out)); (case aS => exact (below_size (by repeat (first | (with_reducible first | exact HB.out | apply below_alloc | apply pw_below_drewN | apply below_drew1 | refine below_set ?_ GE385.out) | exact HB.out)))); (case aL => have := LMc9.out; omega); intro v392 w10 ho hb hg hat; rw [← Ny391.out] at ho; have n0_ := Aside0.mk (blk_grown (g := gb385) (o := .cells #[.int .i64 0, .int .i64 0, .slice none 0 0, .slice none 0 0] 28 (0, 0)) (by (with_reducible repeat (first | refine blk_drewN ?_ _ | refine blk_drew ?_ | refine blk_alloc ?_ _)); exact BK385.out) hg (Kd.R_ne HO_4.out BK385.out (by decide))); have n1_ := Aside0.mk (hb); have n2_ := Aside0.mk (ho); clear BK385; clear HB; clear HO_4; have BK385 := n0_; have HB := n1_; have HO393 := n2_; clear n0_ n1_ n2_; clear ho hb hg hat))
      go_roundg k1
      case measure => have := HK1.out; omega
      case rel => exact ⟨(y391), (wrap64 (x5_1 + 1)), (by first | rfl | (simp; done) | (simp [*]; done)), H', ⟨by have := HK1.out; omega⟩, ⟨by (with_reducible repeat (first | apply Kd.R_alloc | apply Kd.R_drewN | apply Kd.R_drew)); exact HO393.out⟩, ⟨by (with_reducible repeat (first | refine blk_drewN ?_ _ | refine blk_drew ?_ | refine blk_alloc ?_ _)); exact BK385.out⟩, ⟨by repeat (first | (with_reducible first | exact HB.out | apply below_alloc | apply pw_below_drewN | apply below_drew1 | refine below_set ?_ GE385.out) | exact HB.out)⟩⟩
     ·rw [if_neg c9] at H
      exact absurd H (by simp)
    ·rw [if_neg c8] at H
     have c8b0 : decide (x5_1 < t390) = false := decide_eq_false c8
     clear c8
     obtain ⟨y394, hy394⟩ : ∃ y_ : List Bool, y_ = (([true] : List Bool)) := ⟨_, rfl⟩
     replace H : ((spec_l01Tidied_v.f k1 a0 0 y394 (([x4_1] : List (List Int)))).bind fun bt401 => (some (bt401.1, bt401.2.1, bt401.2.2.1, bt401.2.2.2, 0))) = some (r1, r2, r3, r4, r5) := by first | (rw [hy394]; with_reducible exact H) | (have H2_ := (Option.bind_some _ _).symm.trans H; rw [hy394]; with_reducible exact H2_) | (have H2_ := (Option.bind_some _ _).symm.trans H; with_reducible exact H2_) | with_reducible exact H | (rw [hy394]; exact H) | exact H
     have Ny394 := Aside0.mk hy394
     clear hy394
     obtain ⟨y397, hy397⟩ : ∃ y_ : List (List Int), y_ = (([x4_1] : List (List Int))) := ⟨_, rfl⟩
     replace H : ((spec_l01Tidied_v.f k1 a0 0 y394 y397).bind fun bt401 => (some (bt401.1, bt401.2.1, bt401.2.2.1, bt401.2.2.2, 0))) = some (r1, r2, r3, r4, r5) := by first | (rw [hy397]; with_reducible exact H) | (have H2_ := (Option.bind_some _ _).symm.trans H; rw [hy397]; with_reducible exact H2_) | (have H2_ := (Option.bind_some _ _).symm.trans H; with_reducible exact H2_) | with_reducible exact H | (rw [hy397]; exact H) | exact H
     have Ny397 := Aside0.mk hy397
     clear hy397
     replace H := Option.bind_eq_some_iff.mp H
     obtain ⟨⟨t401, t402, t403, t406⟩, A110, H⟩ := H
     replace H : (some (t401, t402, t403, t406, 0)) = some (r1, r2, r3, r4, r5) := H
     have A11 := Aside0.mk A110
     clear A110
     simp only [Option.some.injEq, Prod.mk.injEq] at H
     obtain ⟨rfl, rfl, rfl, rfl, rfl⟩ := H
     go_wp2_with (first | ((with_reducible refine gate_callee (f := 66) rfl ?_); refine goesL_ (some 13) rfl rfl Tryd.func66 (by kernel_rfl) rfl #[.int .i64 a0] rfl (by (try simp only [List.map_toArray, List.map_cons, List.map_nil]); first | done | rfl | (simp only [List.length_drop, List.length_take]; rfl)) ?_; (with_reducible refine (spec_l01Wide.calls k1 a0 t390 _ A7.out).mono ?_); rintro e w' ⟨rfl, ⟨nd, rfl⟩⟩; refine ⟨_, rfl, ?_⟩; (try (rw [drewN_self wr]; generalize hq_ : World.drewN wr _ = wr; have n0_ : Aside0 (Kd.R (Kd.int .i64) 2 wr w.heap.size (fun k_ => (w.heap.size ≤ k_)) u4 x4_1) := ⟨by rw [← hq_]; exact (by (with_reducible repeat (first | apply Kd.R_alloc | apply Kd.R_drewN | apply Kd.R_drew)); exact HO_4.out)⟩; have n1_ : Aside0 (wr.heap[gb385]? = some (.cells #[.int .i64 0, .int .i64 0, .slice none 0 0, .slice none 0 0] 28 (0, 0))) := ⟨by rw [← hq_]; exact (by (with_reducible repeat (first | refine blk_drewN ?_ _ | refine blk_drew ?_ | refine blk_alloc ?_ _)); exact BK385.out)⟩; have n2_ : Aside0 (Below w.heap.size w wr) := ⟨by rw [← hq_]; exact (by repeat (first | (with_reducible first | exact HB.out | apply below_alloc | apply pw_below_drewN | apply below_drew1 | refine below_set ?_ GE385.out) | exact HB.out))⟩; clear HO_4 BK385 HB hq_; have HO_4 := n0_; have BK385 := n1_; have HB := n2_; clear n0_ n1_ n2_))) | ((with_reducible refine gate_dst (N := 21) rfl ?_); refine Kd.R_lit Kd.bool _ 4 ?hg (N := 21) ?hd (xs := ([true] : List Bool)) (inner := [.bool true]) (ok := fun _ => True) (okp := fun _ => True) ?hr ?hp (fun _ hk => hk) trivial (Below.refl _ _) (Nat.le_refl _) (by simp) ?_; (case hd => rfl); (case hg => rfl); (case hr => first | (go_simp; done) | (go_simp; rfl)); (case hp => exact (Reps.one (show Kd.M Kd.bool _ _ _ true [.bool true] from rfl) (Reps.none _ _))); intro v395 w12 ho13 hb hg_ hnew_; clear hg_ hnew_; (first | rw [← Ny394.out] at ho13 | (simp only [Int.reduceToNat] at ho13; rw [← Ny394.out] at ho13)); have n0_ := Aside0.mk (Kd.R_below (by (with_reducible repeat (first | apply Kd.R_alloc | apply Kd.R_drewN | apply Kd.R_drew)); exact HO_4.out) hb); have n1_ := Aside0.mk (Kd.R_lower (Kd.R_newM (M := fun k_ => (w.heap.size ≤ k_)) ho13 (below_size (by repeat (first | (with_reducible first | exact HB.out | apply below_alloc | apply pw_below_drewN | apply below_drew1 | refine below_set ?_ GE385.out) | exact HB.out))) (fun k_ h_ => h_)) (below_size (by repeat (first | (with_reducible first | exact HB.out | apply below_alloc | apply pw_below_drewN | apply below_drew1 | refine below_set ?_ GE385.out) | exact HB.out)))); have n2_ := Aside0.mk (blk_below (g := gb385) (o := .cells #[.int .i64 0, .int .i64 0, .slice none 0 0, .slice none 0 0] 28 (0, 0)) (by (with_reducible repeat (first | refine blk_drewN ?_ _ | refine blk_drew ?_ | refine blk_alloc ?_ _)); exact BK385.out) hb); have n3_ := Aside0.mk (below_step (by repeat (first | (with_reducible first | exact HB.out | apply below_alloc | apply pw_below_drewN | apply below_drew1 | refine below_set ?_ GE385.out) | exact HB.out)) hb); clear HO_4; clear BK385; clear HB; have HO_4 := n0_; have HO396 := n1_; have BK385 := n2_; have HB := n3_; clear n0_ n1_ n2_ n3_; clear hb ho13; obtain ⟨Ao14, co14, eo14⟩ := Kd.R_slice HO_4.out; subst eo14) | ((with_reducible refine gate_dst (N := 23) rfl ?_); refine Kd.N_lit (Kd.slice 2 (Kd.int .i64)) _ 55 ?hg (N' := 23) ?hd (xs := ([x4_1] : List (List Int))) (inner := [.slice Ao14 x4_1.length co14]) (ok := (fun k_ => (w.heap.size ≤ k_) ∧ some k_ ≠ (v395 : Value).ownBlock ∧ k_ ≠ gb385)) (okp := (fun k_ => (w.heap.size ≤ k_) ∧ some k_ ≠ (v395 : Value).ownBlock ∧ k_ ≠ gb385)) ?hr ?hp (fun _ hk => hk) ((show ∀ k_, w12.heap.size ≤ k_ → (fun k_ => (w.heap.size ≤ k_) ∧ some k_ ≠ (v395 : Value).ownBlock ∧ k_ ≠ gb385) k_ from fun k_ hk => ⟨(Nat.le_trans (below_size (by repeat (first | (with_reducible first | exact HB.out | apply below_alloc | apply pw_below_drewN | apply below_drew1 | refine below_set ?_ GE385.out) | exact HB.out))) hk), Kd.fresh' (Kd.R_lt (by (with_reducible repeat (first | apply Kd.R_alloc | apply Kd.R_drewN | apply Kd.R_drew)); exact HO396.out)) k_ hk, Kd.freshB (g := gb385) (o := .cells #[.int .i64 0, .int .i64 0, .slice none 0 0, .slice none 0 0] 28 (0, 0)) (by (with_reducible repeat (first | refine blk_drewN ?_ _ | refine blk_drew ?_ | refine blk_alloc ?_ _)); exact BK385.out) k_ hk⟩) _ (Nat.le_refl _)) (Below.refl _ _) (Nat.le_refl _) (by simp) ?_; (case hd => rfl); (case hg => rfl); (case hr => first | (go_simp; done) | (go_simp; rfl)); (case hp => exact (Reps.one (show Kd.FK (Kd.slice 2 (Kd.int .i64)) _ _ x4_1 [.slice Ao14 x4_1.length co14] from (Kd.FK_slice_mk (Kd.R_reads' (Kd.R_mono (ok' := (fun k_ => (w.heap.size ≤ k_) ∧ some k_ ≠ (v395 : Value).ownBlock ∧ k_ ≠ gb385)) (Kd.R_types (Kd.R_apart' (HO_4.out) (Kd.R_typed HO396.out) (by decide)) BK385.out (by decide)) (fun k_ hk => ⟨hk.1.1, ⟨hk.1.2, hk.2⟩⟩))).2.1 (Kd.R_F (Kd.R_mono (ok' := (fun k_ => (w.heap.size ≤ k_) ∧ some k_ ≠ (v395 : Value).ownBlock ∧ k_ ≠ gb385)) (Kd.R_types (Kd.R_apart' (HO_4.out) (Kd.R_typed HO396.out) (by decide)) BK385.out (by decide)) (fun k_ hk => ⟨hk.1.1, ⟨hk.1.2, hk.2⟩⟩))))) (Reps.none _ _))); intro v398 w15 ho16 hb hg_ hnew_; clear hg_ hnew_; (first | rw [← Ny397.out] at ho16 | (simp only [Int.reduceToNat] at ho16; rw [← Ny397.out] at ho16)); have n0_ := Aside0.mk (Kd.R_below (by (with_reducible repeat (first | apply Kd.R_alloc | apply Kd.R_drewN | apply Kd.R_drew)); exact HO396.out) hb); have n1_ := Aside0.mk (Kd.N_lower ho16 (below_size (by repeat (first | (with_reducible first | exact HB.out | apply below_alloc | apply pw_below_drewN | apply below_drew1 | refine below_set ?_ GE385.out) | exact HB.out)))); have n2_ := Aside0.mk (blk_below (g := gb385) (o := .cells #[.int .i64 0, .int .i64 0, .slice none 0 0, .slice none 0 0] 28 (0, 0)) (by (with_reducible repeat (first | refine blk_drewN ?_ _ | refine blk_drew ?_ | refine blk_alloc ?_ _)); exact BK385.out) hb); have n3_ := Aside0.mk (below_step (by repeat (first | (with_reducible first | exact HB.out | apply below_alloc | apply pw_below_drewN | apply below_drew1 | refine below_set ?_ GE385.out) | exact HB.out)) hb); clear HO396; clear BK385; clear HB; clear HO_4; have HO396 := n0_; have HO399 := n1_; have BK385 := n2_; have HB := n3_; clear n0_ n1_ n2_ n3_; clear hb ho16; obtain ⟨Ao17, co17, eo17⟩ := Kd.N_slice HO399.out; subst eo17; obtain ⟨Ao18, co18, eo18⟩ := Kd.R_slice HO396.out; subst eo18) | ((with_reducible refine gate_dst (N := 25) rfl ?_); refine box_event ?hg (N := 25) ?hd (cs := #[.int .i64 a0, .int .i64 0, .slice Ao18 y394.length co18, .slice Ao17 y397.length co17]) (t := 28) ?hr ?_; (case hd => rfl); (case hg => rfl); (case hr => first | (go_simp; done) | (go_simp; rfl)); intro gb400 hg w19 hbox hb; have n0_ := Aside0.mk (Kd.R_below (by (with_reducible repeat (first | apply Kd.R_alloc | apply Kd.R_drewN | apply Kd.R_drew)); exact HO396.out) hb); have n1_ := Aside0.mk (Kd.N_below (Kd.N_elderB (by (with_reducible repeat (first | apply Kd.N_alloc | apply Kd.N_drewN | apply Kd.N_drew)); exact HO399.out) gb400 (Nat.le_of_eq hg.symm)) hb); have n2_ := Aside0.mk (blk_below (g := gb385) (o := .cells #[.int .i64 0, .int .i64 0, .slice none 0 0, .slice none 0 0] 28 (0, 0)) (by (with_reducible repeat (first | refine blk_drewN ?_ _ | refine blk_drew ?_ | refine blk_alloc ?_ _)); exact BK385.out) hb); have n3_ := Aside0.mk (below_step (by repeat (first | (with_reducible first | exact HB.out | apply below_alloc | apply pw_below_drewN | apply below_drew1 | refine below_set ?_ GE385.out) | exact HB.out)) hb); have n4_ := Aside0.mk (hbox); have n5_ := Aside0.mk ((by rw [hg]; exact (below_size (by repeat (first | (with_reducible first | exact HB.out | apply below_alloc | apply pw_below_drewN | apply below_drew1 | refine below_set ?_ GE385.out) | exact HB.out))) : w.heap.size ≤ gb400)); have n6_ := Aside0.mk ((by rw [hg]; exact (below_size (by repeat (first | (with_reducible first | exact HB.out | apply below_alloc | apply pw_below_drewN | apply below_drew1 | refine below_set ?_ GE385.out) | exact HB.out))) : w.heap.size ≤ gb400)); have n7_ := Aside0.mk ((by rw [hg]; exact Nat.ne_of_lt (blk_lt (g := gb385) (o := .cells #[.int .i64 0, .int .i64 0, .slice none 0 0, .slice none 0 0] 28 (0, 0)) (by (with_reducible repeat (first | refine blk_drewN ?_ _ | refine blk_drew ?_ | refine blk_alloc ?_ _)); exact BK385.out)) : gb385 ≠ gb400)); have n8_ := Aside0.mk ((by rw [hg]; exact Nat.ne_of_gt (blk_lt (g := gb385) (o := .cells #[.int .i64 0, .int .i64 0, .slice none 0 0, .slice none 0 0] 28 (0, 0)) (by (with_reducible repeat (first | refine blk_drewN ?_ _ | refine blk_drew ?_ | refine blk_alloc ?_ _)); exact BK385.out)) : gb400 ≠ gb385)); clear HO396; clear HO399; clear BK385; clear HB; have HO396 := n0_; have HO399 := n1_; have BK385 := n2_; have HB := n3_; have BK400 := n4_; have GW400 := n5_; have GE400 := n6_; have NB385_400 := n7_; have NB400_385 := n8_; clear n0_ n1_ n2_ n3_ n4_ n5_ n6_ n7_ n8_; clear hb hbox hg; have hnb20 := NB400_385.out; have hnc20 := NB385_400.out; have hcz21_0 : w19.cell? ⟨gb400, 0, none⟩ = some (.int .i64 a0) := (blk_cell BK400.out 0).trans rfl; have hcz21_1 : w19.cell? ⟨gb400, 1, none⟩ = some (.int .i64 0) := (blk_cell BK400.out 1).trans rfl; have hcz21_2 : w19.cell? ⟨gb400, 2, none⟩ = some (.slice Ao18 y394.length co18) := (blk_cell BK400.out 2).trans rfl; have hcz21_3 : w19.cell? ⟨gb400, 3, none⟩ = some (.slice Ao17 y397.length co17) := (blk_cell BK400.out 3).trans rfl; have hfz21_0 := blk_frozen BK400.out 0; have hfz21_1 := blk_frozen BK400.out 1; have hfz21_2 := blk_frozen BK400.out 2; have hfz21_3 := blk_frozen BK400.out 3) | ((with_reducible refine gate_callee (f := 67) rfl ?_); refine goesL_ (some 26) rfl rfl Tryd.func67 (by kernel_rfl) rfl #[.pointer (some ⟨gb400, 0, none⟩)] rfl (by (try simp only [List.map_toArray, List.map_cons, List.map_nil]); first | done | rfl | (simp only [List.length_drop, List.length_take]; rfl)) ?_; (with_reducible refine (spec_l01Tidied_v.calls k1 a0 0 Ao18 co18 y394 Ao17 co17 y397 t401 t402 t403 t406 _ ?sidebox ?side1 ?side2 ?side3 ?side4 A11.out).mono ?_); (case sidebox => ((with_reducible repeat (first | refine blk_drewN ?_ _ | refine blk_drew ?_ | refine blk_alloc ?_ _)); exact BK400.out)); (case side1 => repeat (first | exact (Kd.R_reads' HO396.out).2.2 | (with_reducible refine Kd.C_alloc ?_ _) | (with_reducible refine Kd.C_drewN ?_ _) | (with_reducible refine Kd.C_drew ?_))); (case side2 => exact (Kd.R_reads' HO396.out).2.1); (case side3 => repeat (first | exact (Kd.N_reads' HO399.out).2.2 | (with_reducible refine Kd.C_alloc ?_ _) | (with_reducible refine Kd.C_drewN ?_ _) | (with_reducible refine Kd.C_drew ?_))); (case side4 => exact (Kd.N_reads' HO399.out).2.1); rintro e w22 ⟨v404, v407, rfl, ho0, ho1, hb⟩; refine ⟨_, rfl, ?_⟩; have n0_ := Aside0.mk (Kd.R_elder' (by (with_reducible repeat (first | apply Kd.R_alloc | apply Kd.R_drewN | apply Kd.R_drew)); exact HO396.out) (Kd.R_base ho0) hb); have n1_ := Aside0.mk (Kd.N_mono (Kd.N_told (Kd.N_told (Kd.N_old (by (with_reducible repeat (first | apply Kd.N_alloc | apply Kd.N_drewN | apply Kd.N_drew)); exact HO399.out) hb) (Kd.R_base ho0)) (by first | exact Kd.N_base ho1 | exact Kd.S_base ho1)) (fun _ h_ => h_.1)); have n2_ := Aside0.mk (Kd.R_lower (Kd.R_new' (Kd.R_newM (M := fun k_ => (w.heap.size ≤ k_)) ho0 (below_size (by repeat (first | (with_reducible first | exact HB.out | apply below_alloc | apply pw_below_drewN | apply below_drew1 | refine below_set ?_ GE385.out | refine below_set ?_ GE400.out) | exact HB.out))) (fun k_ h_ => h_)) (Kd.R_lt (by (with_reducible repeat (first | apply Kd.R_alloc | apply Kd.R_drewN | apply Kd.R_drew)); exact HO396.out))) (below_size (by repeat (first | (with_reducible first | exact HB.out | apply below_alloc | apply pw_below_drewN | apply below_drew1 | refine below_set ?_ GE385.out | refine below_set ?_ GE400.out) | exact HB.out)))); have n3_ := Aside0.mk (Kd.N_lower (Kd.N_mono (ok' := fun k_ => (w.heap.size ≤ k_) ∧ some k_ ≠ (v404 : Value).ownBlock ∧ some k_ ≠ (.slice Ao18 y394.length co18 : Value).ownBlock ∧ some k_ ≠ (.slice Ao17 y397.length co17 : Value).ownBlock ∧ k_ ≠ gb385 ∧ k_ ≠ gb400) (Kd.S_N (Kd.S_bound (Kd.S_apart' ho1 (Kd.R_typed ho0) (by decide)))) (fun k_ hk_ => ⟨(Nat.le_trans (below_size (by repeat (first | (with_reducible first | exact HB.out | apply below_alloc | apply pw_below_drewN | apply below_drew1 | refine below_set ?_ GE385.out | refine below_set ?_ GE400.out) | exact HB.out))) hk_.2.1), hk_.1.2, (Kd.fresh' (Kd.R_lt (by (with_reducible repeat (first | apply Kd.R_alloc | apply Kd.R_drewN | apply Kd.R_drew)); exact HO396.out)) k_ hk_.2.1), (Kd.fresh' (Kd.N_lt (by (with_reducible repeat (first | apply Kd.N_alloc | apply Kd.N_drewN | apply Kd.N_drew)); exact HO399.out)) k_ hk_.2.1), (Kd.freshB (g := gb385) (o := .cells #[.int .i64 0, .int .i64 0, .slice none 0 0, .slice none 0 0] 28 (0, 0)) (by (with_reducible repeat (first | refine blk_drewN ?_ _ | refine blk_drew ?_ | refine blk_alloc ?_ _)); exact BK385.out) k_ hk_.2.1), (Kd.freshB (g := gb400) (o := .cells #[.int .i64 a0, .int .i64 0, .slice Ao18 y394.length co18, .slice Ao17 y397.length co17] 28 (0, 0)) (by (with_reducible repeat (first | refine blk_drewN ?_ _ | refine blk_drew ?_ | refine blk_alloc ?_ _)); exact BK400.out) k_ hk_.2.1)⟩)) (below_size (by repeat (first | (with_reducible first | exact HB.out | apply below_alloc | apply pw_below_drewN | apply below_drew1 | refine below_set ?_ GE385.out | refine below_set ?_ GE400.out) | exact HB.out)))); have n4_ := Aside0.mk (blk_below (g := gb385) (o := .cells #[.int .i64 0, .int .i64 0, .slice none 0 0, .slice none 0 0] 28 (0, 0)) (by (with_reducible repeat (first | refine blk_drewN ?_ _ | refine blk_drew ?_ | refine blk_alloc ?_ _)); exact BK385.out) hb); have n5_ := Aside0.mk (blk_below (g := gb400) (o := .cells #[.int .i64 a0, .int .i64 0, .slice Ao18 y394.length co18, .slice Ao17 y397.length co17] 28 (0, 0)) (by (with_reducible repeat (first | refine blk_drewN ?_ _ | refine blk_drew ?_ | refine blk_alloc ?_ _)); exact BK400.out) hb); have n6_ := Aside0.mk (below_step (by repeat (first | (with_reducible first | exact HB.out | apply below_alloc | apply pw_below_drewN | apply below_drew1 | refine below_set ?_ GE385.out | refine below_set ?_ GE400.out) | exact HB.out)) hb); clear HO396; clear HO399; clear BK385; clear BK400; clear HB; have HO396 := n0_; have HO399 := n1_; have HO405 := n2_; have HO408 := n3_; have BK385 := n4_; have BK400 := n5_; have HB := n6_; clear n0_ n1_ n2_ n3_ n4_ n5_ n6_; (try clear hb); (try clear hb2); (try clear hk); (try clear hi); (try clear ho0); (try clear ho1); have hcz23_0 : w22.cell? ⟨gb385, 0, none⟩ = some (.int .i64 0) := (blk_cell BK385.out 0).trans rfl; have hcz23_1 : w22.cell? ⟨gb385, 1, none⟩ = some (.int .i64 0) := (blk_cell BK385.out 1).trans rfl; have hcz23_2 : w22.cell? ⟨gb385, 2, none⟩ = some (.slice none 0 0) := (blk_cell BK385.out 2).trans rfl; have hcz23_3 : w22.cell? ⟨gb385, 3, none⟩ = some (.slice none 0 0) := (blk_cell BK385.out 3).trans rfl; have hfz23_0 := blk_frozen BK385.out 0; have hfz23_1 := blk_frozen BK385.out 1; have hfz23_2 := blk_frozen BK385.out 2; have hfz23_3 := blk_frozen BK385.out 3; obtain ⟨Ao24, co24, eo24⟩ := Kd.R_slice HO405.out; subst eo24; obtain ⟨Ao25, co25, eo25⟩ := Kd.N_slice HO408.out; subst eo25))
     refine bodyPost_ret (results_ct rfl _ _ gb385 28 #[.int .i64 t401, .int .i64 t402, .slice Ao24 t403.length co24, .slice Ao25 t406.length co25] (0, 0) _ rfl (by (with_reducible repeat (first | refine blk_drewN ?_ _ | refine blk_drew ?_ | refine blk_alloc ?_ _)); refine blk_put (cs := #[.int .i64 t401, .int .i64 t402, .slice Ao24 t403.length co24, .slice none 0 0]) ?_ 3 _ rfl; (with_reducible repeat (first | refine blk_drewN ?_ _ | refine blk_drew ?_ | refine blk_alloc ?_ _)); refine blk_put (cs := #[.int .i64 t401, .int .i64 t402, .slice none 0 0, .slice none 0 0]) ?_ 2 _ rfl; (with_reducible repeat (first | refine blk_drewN ?_ _ | refine blk_drew ?_ | refine blk_alloc ?_ _)); refine blk_put (cs := #[.int .i64 t401, .int .i64 0, .slice none 0 0, .slice none 0 0]) ?_ 1 _ rfl; (with_reducible repeat (first | refine blk_drewN ?_ _ | refine blk_drew ?_ | refine blk_alloc ?_ _)); refine blk_put (cs := #[.int .i64 0, .int .i64 0, .slice none 0 0, .slice none 0 0]) ?_ 0 _ rfl; (with_reducible repeat (first | refine blk_drewN ?_ _ | refine blk_drew ?_ | refine blk_alloc ?_ _)); exact BK385.out) Tryd.underlying28 rfl (by kernel_rfl)) rfl ?_
     exact ⟨_, _, by first | rfl | (simp [errW_none, errW_some] <;> rfl) | (simp [*, errW_none, errW_some] <;> rfl), by (with_reducible repeat (first | apply Kd.R_alloc | apply Kd.R_drewN | apply Kd.R_drew)); exact Kd.R_mono (Kd.R_far (p := ⟨gb385, 3, none⟩) (Kd.R_far (p := ⟨gb385, 2, none⟩) (Kd.R_far (p := ⟨gb385, 1, none⟩) (Kd.R_far (p := ⟨gb385, 0, none⟩) (Kd.R_types HO405.out BK385.out (by decide)) (fun _ hk => hk.2) (.int .i64 t401)) (fun _ hk => hk.2) (.int .i64 t402)) (fun _ hk => hk.2) (.slice Ao24 t403.length co24)) (fun _ hk => hk.2) (.slice Ao25 t406.length co25)) (fun _ hk => hk.1.1.1), by (with_reducible repeat (first | apply Kd.N_alloc | apply Kd.N_drewN | apply Kd.N_drew)); exact Kd.N_mono (Kd.N_far (p := ⟨gb385, 3, none⟩) (Kd.N_far (p := ⟨gb385, 2, none⟩) (Kd.N_far (p := ⟨gb385, 1, none⟩) (Kd.N_far (p := ⟨gb385, 0, none⟩) (Kd.N_mono HO408.out (fun k_ hk => (⟨hk, hk.2.2.2.2.1⟩ : _ ∧ k_ ≠ gb385))) (fun _ hk => hk.2) (.int .i64 t401)) (fun _ hk => hk.2) (.int .i64 t402)) (fun _ hk => hk.2) (.slice Ao24 t403.length co24)) (fun _ hk => hk.2) (.slice Ao25 t406.length co25)) (fun _ hk => ⟨hk.1.1, hk.1.2.1⟩), by repeat (first | (with_reducible first | exact HB.out | apply below_alloc | apply pw_below_drewN | apply below_drew1 | refine below_set ?_ GE385.out | refine below_set ?_ GE400.out) | exact HB.out)⟩
 ·replace c3 := Bool.eq_false_iff.mpr c3
  subst c3
  have H1 : (some (0, 0, ([] : List Bool), ([] : List (List Int)), 2)) = some (r1, r2, r3, r4, r5) := by rw [if_neg (show ¬ (false = true) by decide)] at H; exact H
  clear H
  have H := H1
  clear H1
  simp only [Option.some.injEq, Prod.mk.injEq] at H
  obtain ⟨rfl, rfl, rfl, rfl, rfl⟩ := H
  go_enter Tryd.func26, Tryd.ntmps26
  go_wp2_with (first | ((with_reducible refine gate_dst (N := 2) rfl ?_); refine box_event ?hg (N := 2) ?hd (cs := #[.int .i64 0, .int .i64 0, .slice none 0 0, .slice none 0 0]) (t := 28) ?hr ?_; (case hd => rfl); (case hg => rfl); (case hr => first | (go_simp; done) | (go_simp; rfl)); intro gb385 hg w26 hbox hb; have n0_ := Aside0.mk (below_step (by repeat (first | (with_reducible first | exact HB.out | apply below_alloc | apply pw_below_drewN | apply below_drew1) | exact HB.out)) hb); have n1_ := Aside0.mk (hbox); have n2_ := Aside0.mk ((by rw [hg]; exact (below_size (by repeat (first | (with_reducible first | exact HB.out | apply below_alloc | apply pw_below_drewN | apply below_drew1) | exact HB.out))) : w.heap.size ≤ gb385)); have n3_ := Aside0.mk ((by rw [hg]; exact (below_size (by repeat (first | (with_reducible first | exact HB.out | apply below_alloc | apply pw_below_drewN | apply below_drew1) | exact HB.out))) : w.heap.size ≤ gb385)); clear HB; have HB := n0_; have BK385 := n1_; have GW385 := n2_; have GE385 := n3_; clear n0_ n1_ n2_ n3_; clear hb hbox hg) | ((with_reducible refine gate_callee (f := 65) rfl ?_); refine goesL_ (some 7) rfl rfl Tryd.func65 (by kernel_rfl) rfl #[.int .i64 a0, .int .i64 1, .int .i64 3] rfl (by (try simp only [List.map_toArray, List.map_cons, List.map_nil]); first | done | rfl | (simp only [List.length_drop, List.length_take]; rfl)) ?_; (with_reducible refine (spec_l00In.calls a0 1 3 false _ A2.out).mono ?_); rintro e w' ⟨rfl, ⟨nd, rfl⟩⟩; refine ⟨_, rfl, ?_⟩; (try (rw [drewN_self w26]; generalize hq_ : World.drewN w26 _ = w26; have n0_ : Aside0 (w26.heap[gb385]? = some (.cells #[.int .i64 0, .int .i64 0, .slice none 0 0, .slice none 0 0] 28 (0, 0))) := ⟨by rw [← hq_]; exact (by (with_reducible repeat (first | refine blk_drewN ?_ _ | refine blk_drew ?_ | refine blk_alloc ?_ _)); exact BK385.out)⟩; have n1_ : Aside0 (Below w.heap.size w w26) := ⟨by rw [← hq_]; exact (by repeat (first | (with_reducible first | exact HB.out | apply below_alloc | apply pw_below_drewN | apply below_drew1 | refine below_set ?_ GE385.out) | exact HB.out))⟩; clear BK385 HB hq_; have BK385 := n0_; have HB := n1_; clear n0_ n1_)); have hcz27_0 : w26.cell? ⟨gb385, 0, none⟩ = some (.int .i64 0) := (blk_cell BK385.out 0).trans rfl; have hcz27_1 : w26.cell? ⟨gb385, 1, none⟩ = some (.int .i64 0) := (blk_cell BK385.out 1).trans rfl; have hcz27_2 : w26.cell? ⟨gb385, 2, none⟩ = some (.slice none 0 0) := (blk_cell BK385.out 2).trans rfl; have hcz27_3 : w26.cell? ⟨gb385, 3, none⟩ = some (.slice none 0 0) := (blk_cell BK385.out 3).trans rfl; have hfz27_0 := blk_frozen BK385.out 0; have hfz27_1 := blk_frozen BK385.out 1; have hfz27_2 := blk_frozen BK385.out 2; have hfz27_3 := blk_frozen BK385.out 3))
  refine bodyPost_ret (results_ct rfl _ _ gb385 28 #[.int .i64 0, .int .i64 0, .slice none 0 0, .slice none 0 0] (0, 0) _ rfl (by (with_reducible repeat (first | refine blk_drewN ?_ _ | refine blk_drew ?_ | refine blk_alloc ?_ _)); refine blk_put (cs := #[.int .i64 0, .int .i64 0, .slice none 0 0, .slice none 0 0]) ?_ 3 _ rfl; (with_reducible repeat (first | refine blk_drewN ?_ _ | refine blk_drew ?_ | refine blk_alloc ?_ _)); refine blk_put (cs := #[.int .i64 0, .int .i64 0, .slice none 0 0, .slice none 0 0]) ?_ 2 _ rfl; (with_reducible repeat (first | refine blk_drewN ?_ _ | refine blk_drew ?_ | refine blk_alloc ?_ _)); refine blk_put (cs := #[.int .i64 0, .int .i64 0, .slice none 0 0, .slice none 0 0]) ?_ 1 _ rfl; (with_reducible repeat (first | refine blk_drewN ?_ _ | refine blk_drew ?_ | refine blk_alloc ?_ _)); refine blk_put (cs := #[.int .i64 0, .int .i64 0, .slice none 0 0, .slice none 0 0]) ?_ 0 _ rfl; (with_reducible repeat (first | refine blk_drewN ?_ _ | refine blk_drew ?_ | refine blk_alloc ?_ _)); exact BK385.out) Tryd.underlying28 rfl (by kernel_rfl)) rfl ?_
  exact ⟨_, _, by first | rfl | (simp [errW_none, errW_some] <;> rfl) | (simp [*, errW_none, errW_some] <;> rfl), by first | exact Kd.R_nil _ _ _ _ _ | exact Kd.N_nil _ _ _ _ _ | exact Kd.V_nil _ _ _ _ _ | exact Kd.Q_nil _ _ _ _ _ | exact Kd.S_nil _ _ _ _ _, by first | exact Kd.S_nil _ _ _ _ _ | exact Kd.N_nil _ _ _ _ _ | exact Kd.V_nil _ _ _ _ _ | exact Kd.Q_nil _ _ _ _ _ | exact Kd.R_nil _ _ _ _ _, by repeat (first | (with_reducible first | exact HB.out | apply below_alloc | apply pw_below_drewN | apply below_drew1 | refine below_set ?_ GE385.out) | exact HB.out)⟩
end Go.Proofs.YtbkcllfgolmloaaDoor.X

-- Written by a program of this claim's author, out of the translation.
namespace Go.Proofs.YtbkcllfgolmloaaDoor.X
open Go.RowKit Go.Proofs.YtbkcllfgolmloaaDoorW.PrintWords Go.Proofs.YtbkcllfgolmloaaDoorW.PrintLast Go.Proofs.YtbkcllfgolmloaaDoorW.PrintMore
attribute [local go_sem] max2_int min2_int max_two min_two max_three min_three max_four min_four   -- for this text's walks alone
set_option linter.unusedVariables false
set_option linter.unusedSimpArgs false
def impl_within.f (a0 : Int) (a1 : Int) (a2 : Int) : Option (Bool) := if a1 ≤ a0 then (some (decide (a0 ≤ a2))) else (some false)
set_option maxHeartbeats 8000000 in
set_option maxRecDepth 100000 in
theorem impl_within.calls (a0 : Int) (a1 : Int) (a2 : Int) (r : Bool) (w : World) (h : impl_within.f a0 a1 a2 = some r) :
  Calls Tryd.prog 82 #[.int .i64 a0, .int .i64 a1, .int .i64 a2] w fun e w' => e = .returned (.bool r) ∧ Drawn0 w w' := by
 have H : (if a1 ≤ a0 then (some (decide (a0 ≤ a2))) else (some false)) = some r := h
 clear h
 by_cases c4 : a1 ≤ a0
 ·rw [if_pos c4] at H
  have c4b0 : decide (a1 ≤ a0) = true := decide_eq_true c4
  clear c4
  obtain rfl := Option.some.inj H
  go_enter Tryd.func82, Tryd.ntmps82
  go_wp2
  go_ret
  exact ⟨by first | rfl | (simp; done) | (simp [*]; done), by repeat (first | exact Drawn0.refl _ | apply Drawn0.step)⟩
 ·rw [if_neg c4] at H
  have c4b0 : decide (a1 ≤ a0) = false := decide_eq_false c4
  clear c4
  obtain rfl := Option.some.inj H
  go_enter Tryd.func82, Tryd.ntmps82
  go_wp2
  go_ret
  exact ⟨by first | rfl | (simp; done) | (simp [*]; done), by repeat (first | exact Drawn0.refl _ | apply Drawn0.step)⟩
end Go.Proofs.YtbkcllfgolmloaaDoor.X

-- Written by a program of this claim's author, out of the translation.
namespace Go.Proofs.YtbkcllfgolmloaaDoor.X
open Go.RowKit Go.Proofs.YtbkcllfgolmloaaDoorW.PrintWords Go.Proofs.YtbkcllfgolmloaaDoorW.PrintLast Go.Proofs.YtbkcllfgolmloaaDoorW.PrintMore
attribute [local go_sem] max2_int min2_int max_two min_two max_three min_three max_four min_four   -- for this text's walks alone
set_option linter.unusedVariables false
set_option linter.unusedSimpArgs false
def impl_areTapes.f (a0 : Int) : Option (Bool) := (impl_within.f a0 1 3).bind fun t165 => (some t165)
set_option maxHeartbeats 8000000 in
set_option maxRecDepth 100000 in
theorem impl_areTapes.calls (a0 : Int) (r : Bool) (w : World) (h : impl_areTapes.f a0 = some r) :
  Calls Tryd.prog 68 #[.int .i64 a0] w fun e w' => e = .returned (.bool r) ∧ Drawn0 w w' := by
 have H : ((impl_within.f a0 1 3).bind fun t165 => (some t165)) = some r := h
 clear h
 replace H := Option.bind_eq_some_iff.mp H
 obtain ⟨t165, A20, H⟩ := H
 replace H : (some t165) = some r := H
 have A2 := Aside0.mk A20
 clear A20
 obtain rfl := Option.some.inj H
 go_enter Tryd.func68, Tryd.ntmps68
 go_wp2_with (first | ((with_reducible refine gate_callee (f := 82) rfl ?_); refine goesL_ (some 4) rfl rfl Tryd.func82 (by kernel_rfl) rfl #[.int .i64 a0, .int .i64 1, .int .i64 3] rfl (by (try simp only [List.map_toArray, List.map_cons, List.map_nil]); first | done | rfl | (simp only [List.length_drop, List.length_take]; rfl)) ?_; (with_reducible refine (impl_within.calls a0 1 3 t165 _ A2.out).mono ?_); rintro e w' ⟨rfl, ⟨nd, rfl⟩⟩; refine ⟨_, rfl, ?_⟩))
 go_ret
 exact ⟨by first | rfl | (simp; done) | (simp [*]; done), by repeat (first | exact Drawn0.refl _ | apply Drawn0.step)⟩
end Go.Proofs.YtbkcllfgolmloaaDoor.X

-- Written by a program of this claim's author, out of the translation.
namespace Go.Proofs.YtbkcllfgolmloaaDoor.X
open Go.RowKit Go.Proofs.YtbkcllfgolmloaaDoorW.PrintWords Go.Proofs.YtbkcllfgolmloaaDoorW.PrintLast Go.Proofs.YtbkcllfgolmloaaDoorW.PrintMore
attribute [local go_sem] max2_int min2_int max_two min_two max_three min_three max_four min_four   -- for this text's walks alone
set_option linter.unusedVariables false
set_option linter.unusedSimpArgs false
def impl_digitsOf.l0 : Nat → Int → Int → List Int → Option (List Int)
 | 0, _, _, _ => none
 | k + 1, x0, x1, x5 => if x0 > 0 then (if x5.length < 17592186044416 then (impl_digitsOf.l0 k (wrap64 (x0 - 1)) (wrap64 (Int.tdiv x1 3)) (x5 ++ [Int.tmod x1 3])) else (none)) else (some x5)
def impl_digitsOf.f (k : Nat) (a0 : Int) (a1 : Int) : Option (List Int) := impl_digitsOf.l0 k a0 a1 ([] : List Int)
set_option maxHeartbeats 8000000 in
set_option maxRecDepth 100000 in
theorem impl_digitsOf.calls (k : Nat) (a0 : Int) (a1 : Int) (r : List Int) (w : World) (h : impl_digitsOf.f k a0 a1 = some r) :
  Calls Tryd.prog 124 #[.int .i64 a0, .int .i64 a1] w fun e w' => ∃ v0_ : Value, e = .returned (v0_) ∧ Kd.R (Kd.int .i64) 3 w' w.heap.size (fun _ => True) v0_ r ∧ Below w.heap.size w w' := by
 have HB := Aside0.mk (Below.refl w.heap.size w)
 have H : (impl_digitsOf.l0 k a0 a1 ([] : List Int)) = some r := h
 clear h
 have H' := Aside0.mk H
 clear H
 go_enter Tryd.func124, Tryd.ntmps124
 go_wp2
 go_loopg [0, 1, 5] k (fun kq v0 v1 v5 w' => ∃ (x0_1 : Int) (x1_1 : Int) (x5_1 : List Int), v0 = .int .i64 x0_1 ∧ v1 = .int .i64 x1_1 ∧ Aside0 (impl_digitsOf.l0 kq x0_1 x1_1 x5_1 = some r) ∧ Aside0 (kq ≤ k) ∧ Aside0 (Kd.R (Kd.int .i64) 3 w' w.heap.size (fun _ => True) v5 x5_1) ∧ Aside0 (Below w.heap.size w w'))
 case atStart => exact ⟨(a0), (a1), (([] : List Int)), (by first | rfl | (simp; done) | (simp [*]; done)), (by first | rfl | (simp; done) | (simp [*]; done)), H', ⟨Nat.le_refl _⟩, ⟨by first | exact Kd.R_nil _ _ _ _ _ | exact Kd.N_nil _ _ _ _ _ | exact Kd.V_nil _ _ _ _ _ | exact Kd.Q_nil _ _ _ _ _ | exact Kd.S_nil _ _ _ _ _⟩, ⟨by repeat (first | (with_reducible first | exact HB.out | apply below_alloc | apply pw_below_drewN | apply below_drew1) | exact HB.out)⟩⟩
 case round =>
  clear H'
  try clear c1
  try clear p2
  obtain ⟨x0_1, x1_1, x5_1, rfl, rfl, HA, HK1, HO_5, HB⟩ := hrel
  cases gk with
  | zero => exact absurd HA.out (by simp [impl_digitsOf.l0])
  | succ k1 =>
   have H := HA.out
   clear HA
   simp only [impl_digitsOf.l0] at H
   by_cases c3 : x0_1 > 0
   ·rw [if_pos c3] at H
    have c3b0 : decide (0 < x0_1) = true := decide_eq_true c3
    clear c3
    by_cases c4 : x5_1.length < 17592186044416
    ·rw [if_pos c4] at H
     have LMc4 := Aside0.mk c4
     clear c4
     obtain ⟨y409, hy409⟩ : ∃ y_ : List Int, y_ = (x5_1 ++ [Int.tmod x1_1 3]) := ⟨_, rfl⟩
     replace H : (impl_digitsOf.l0 k1 (wrap64 (x0_1 - 1)) (wrap64 (Int.tdiv x1_1 3)) y409) = some r := by first | (rw [hy409]; with_reducible exact H) | (have H2_ := (Option.bind_some _ _).symm.trans H; rw [hy409]; with_reducible exact H2_) | (have H2_ := (Option.bind_some _ _).symm.trans H; with_reducible exact H2_) | with_reducible exact H | (rw [hy409]; exact H) | exact H
     have Ny409 := Aside0.mk hy409
     clear hy409
     have H' := Aside0.mk H
     clear H
     go_wp2_with (first | ((with_reducible refine gate_builtin (b := .append) (xs := #[.tmp 10, .tmp 13]) rfl ?_); at_builtin; refine Kd.R_append (Kd.int .i64) (w0 := w) w.heap.size rfl (.tmp 10) (.tmp 13) 77 3 (.int .i64 0) 8 rfl Tryd.underlying77 info3 rfl (by decide) (by omega) u5 x5_1 (Int.tmod x1_1 3) [.int .i64 (Int.tmod x1_1 3)] (fun _ => True) (fun _ => False) rfl rfl ?aP (fun _ hk => hk.elim) ?aF ?aO ?aB ?aS ?aL ?_; (case aP => exact rfl); (case aB => exact (by repeat (first | (with_reducible first | exact HB.out | apply below_alloc | apply pw_below_drewN | apply below_drew1) | exact HB.out))); (case aF => exact (fun _ _ => trivial)); (case aO => exact (by (with_reducible repeat (first | apply Kd.R_alloc | apply Kd.R_drewN | apply Kd.R_drew)); exact HO_5.out)); (case aS => exact (below_size (by repeat (first | (with_reducible first | exact HB.out | apply below_alloc | apply pw_below_drewN | apply below_drew1) | exact HB.out)))); (case aL => have := LMc4.out; omega); intro v410 w5 ho hb hg hat; rw [← Ny409.out] at ho; have n0_ := Aside0.mk (hb); have n1_ := Aside0.mk (ho); clear HB; clear HO_5; have HB := n0_; have HO411 := n1_; clear n0_ n1_; clear ho hb hg hat))
     go_roundg k1
     case measure => have := HK1.out; omega
     case rel => exact ⟨(wrap64 (x0_1 - 1)), (wrap64 (Int.tdiv x1_1 3)), (y409), (by first | rfl | (simp; done) | (simp [*]; done)), (by first | rfl | (simp; done) | (simp [*]; done)), H', ⟨by have := HK1.out; omega⟩, ⟨by (with_reducible repeat (first | apply Kd.R_alloc | apply Kd.R_drewN | apply Kd.R_drew)); exact HO411.out⟩, ⟨by repeat (first | (with_reducible first | exact HB.out | apply below_alloc | apply pw_below_drewN | apply below_drew1) | exact HB.out)⟩⟩
    ·rw [if_neg c4] at H
     exact absurd H (by simp)
   ·rw [if_neg c3] at H
    have c3b0 : decide (0 < x0_1) = false := decide_eq_false c3
    clear c3
    obtain rfl := Option.some.inj H
    go_wp2
    go_ret
    exact ⟨_, by first | rfl | (simp [errW_none, errW_some] <;> rfl) | (simp [*, errW_none, errW_some] <;> rfl), by (with_reducible repeat (first | apply Kd.R_alloc | apply Kd.R_drewN | apply Kd.R_drew)); exact HO_5.out, by repeat (first | (with_reducible first | exact HB.out | apply below_alloc | apply pw_below_drewN | apply below_drew1) | exact HB.out)⟩
end Go.Proofs.YtbkcllfgolmloaaDoor.X

namespace Go.Proofs.YtbkcllfgolmloaaDoor.X
open Go Go.RowKit Go.Proofs.YtbkcllfgolmloaaDoorW.PrintWords Go.Proofs.YtbkcllfgolmloaaDoorW.PrintLast Go.Proofs.YtbkcllfgolmloaaDoorW.PrintMore
set_option linter.unusedVariables false
set_option linter.unusedSimpArgs false
def kpl : Kd (Int × Int) := Kd.pair (Kd.int .i64) (Kd.int .i64)
def GP (w W : World) (tapes : Int) (own : Nat → Nat) (v14 : Value) (l lm : List (Int × Int)) (va : Value) (bs : List Bool) (vr : Value) (rs : List (List Int)) : Prop :=
 (W.heap[w.heap.size + 2]? = some (.cells #[.int .i64 tapes, .int .i64 0, va, vr] 74 (0, 0)) ∧ own (w.heap.size + 2) = 4) ∧
 (W.ownsMap Tryd.prog 151 (plainElem Tryd.prog 3) (w.heap.size + 3) lm.length (idsD litP lm) ∧ own (w.heap.size + 3) = 5) ∧
 (W.heap[w.heap.size + 1]? = some (.cells #[.int .i64 0, .int .i64 0, .slice none 0 0, .slice none 0 0] 74 (0, 0)) ∧ own (w.heap.size + 1) = 6) ∧
 kpl.R 151 W w.heap.size (fun k => own k = 1) v14 l ∧ Kd.bool.R 4 W w.heap.size (fun k => own k = 2) va bs ∧
 Kd.S (Kd.slice 3 (Kd.int .i64)) 77 W w.heap.size (fun k => own k = 3) vr rs ∧
 Below w.heap.size w W ∧ lm.Nodup ∧ (∀ x ∈ lm, good2 x = true) ∧ lm.length ≤ 1048576
section
variable {w W W1 : World} {tapes : Int} {own : Nat → Nat} {v14 : Value} {l lm : List (Int × Int)} {va : Value} {bs : List Bool} {vr : Value} {rs : List (List Int)}
theorem GP.below (h : GP w W tapes own v14 l lm va bs vr rs) (hb : Below W.heap.size W W1) : GP w W1 tapes own v14 l lm va bs vr rs := by
 obtain ⟨⟨h1, h2⟩, ⟨h3, h4⟩, ⟨h5, h6⟩, h7, h8, h9, h10, h11⟩ := h
 exact ⟨⟨blk_below h1 hb, h2⟩, ⟨map_below h3 hb, h4⟩, ⟨blk_below h5 hb, h6⟩, Kd.R_below h7 hb, Kd.R_below h8 hb, Kd.S_below h9 hb, below_then h10 h10.size hb, h11⟩
/-- Another row (number t, none of these) was written. -/
theorem GP.other (h : GP w W tapes own v14 l lm va bs vr rs) {row : Option Nat} {t : Nat} (hg : W.grownBy W1 row) (hr : ∀ k, row = some k → retag own W.heap.size t k = t) (hb : Below w.heap.size w W1) (ht : 6 < t) : GP w W1 tapes (retag own W.heap.size t) v14 l lm va bs vr rs := by
 obtain ⟨h1, h3, h5, h7, h8, h9, h10, h11⟩ := h
 exact ⟨blk_otherT h1 hg hr (by omega), map_otherT h3 hg hr (by omega), blk_otherT h5 hg hr (by omega), R_otherT h7 hg hr (by omega), R_otherT h8 hg hr (by omega), S_otherT h9 hg hr (by omega), hb, h11⟩
/-- A new state was put into the map. -/
theorem GP.put (h : GP w W tapes own v14 l l va bs vr rs) {x : Int × Int} (hx : x ∉ l) (hi : good2 x = true) (hl : l.length < 1048576) (hm : W1.ownsMap Tryd.prog 151 (plainElem Tryd.prog 3) (w.heap.size + 3) (l.length + 1) (idsD litP (l ++ [x]))) (hg : W.grownBy W1 (some (w.heap.size + 3))) :
  GP w W1 tapes (retag own W.heap.size 5) v14 l (l ++ [x]) va bs vr rs ∧ ∀ k, some (w.heap.size + 3) = some k → retag own W.heap.size 5 k = 5 := by
 obtain ⟨h1, h3, h5, h7, h8, h9, h10, hn, hin, hlen⟩ := h
 have e : retag own W.heap.size 5 (w.heap.size + 3) = 5 := by rw [retag_lt h3.1.lt]; exact h3.2
 have hr : ∀ k, some (w.heap.size + 3) = some k → retag own W.heap.size 5 k = 5 := by
  intro k hk
  injection hk with hk
  subst hk
  exact e
 refine ⟨⟨blk_otherT h1 hg hr (by omega), ⟨by simpa using hm, e⟩, blk_otherT h5 hg hr (by omega), R_otherT h7 hg hr (by omega), R_otherT h8 hg hr (by omega), S_otherT h9 hg hr (by omega), h10.grown hg h10.size (fun k hk => by injection hk with hk; omega), ?_, ?_, by simp; omega⟩, hr⟩
 ·refine List.nodup_append.2 ⟨hn, by simp, fun a ha b hb => ?_⟩
  simp at hb
  subst hb
  exact fun he => hx (he ▸ ha)
 ·intro y hy
  rcases List.mem_append.1 hy with hy | hy
  ·exact hin y hy
  ·simp at hy
   subst hy
   exact hi
/-- .. and behind the list. -/
theorem GP.push (h : GP w W tapes own v14 l lm va bs vr rs) {v1 : Value} {l1 : List (Int × Int)} (hR : kpl.R 151 W1 w.heap.size (fun k => retag own W.heap.size 1 k = 1) v1 l1) (hb : Below w.heap.size w W1) (hg : W.grownBy W1 v14.ownBlock) : GP w W1 tapes (retag own W.heap.size 1) v1 l1 lm va bs vr rs := by
 obtain ⟨h1, h3, h5, h7, h8, h9, h10, h11⟩ := h
 have hr := R_rowT h7
 exact ⟨blk_otherT h1 hg hr (by omega), map_otherT h3 hg hr (by omega), blk_otherT h5 hg hr (by omega), hR, R_otherT h8 hg hr (by omega), S_otherT h9 hg hr (by omega), hb, h11⟩
/-- m.accept was appended to (not yet stored back): m's own block, still. -/
theorem GP.box (h : GP w W tapes own v14 l lm va bs vr rs) (hg : W.grownBy W1 va.ownBlock) : W1.heap[w.heap.size + 2]? = some (.cells #[.int .i64 tapes, .int .i64 0, va, vr] 74 (0, 0)) := by
 obtain ⟨h1, h3, h5, h7, h8, h9, h10, h11⟩ := h
 exact (blk_otherT h1 hg (R_rowT h8) (by omega)).1
theorem GP.acc (h : GP w W tapes own v14 l lm va bs vr rs) {v1 : Value} {bs1 : List Bool} (hR : Kd.bool.R 4 W1 w.heap.size (fun k => retag own W.heap.size 2 k = 2) v1 bs1) (hb : Below w.heap.size w W1) (hg : W.grownBy W1 va.ownBlock) : GP w (W1.setCell ⟨w.heap.size + 2, 2, none⟩ v1) tapes (retag own W.heap.size 2) v14 l lm v1 bs1 vr rs := by
 obtain ⟨h1, h3, h5, h7, h8, h9, h10, h11⟩ := h
 have hr := R_rowT h8
 have b1 := blk_otherT h1 hg hr (by omega)
 have b0 := blk_otherT h5 hg hr (by omega)
 have bm := map_otherT h3 hg hr (by omega)
 have ne : ∀ s k, s ≠ 4 → retag own W.heap.size 2 k = s → k ≠ w.heap.size + 2 := fun s k hs hk he => hs (by rw [← hk, he, b1.2])
 refine ⟨⟨by simpa using blk_set b1.1 2 v1, b1.2⟩, ⟨bm.1.setCell (by simp) _, bm.2⟩, ⟨blk_far b0.1 (by simp) _, b0.2⟩, Kd.R_far (p := ⟨w.heap.size + 2, 2, none⟩) (R_otherT h7 hg hr (by omega)) (fun k hk => ne 1 k (by omega) hk) _, Kd.R_far (p := ⟨w.heap.size + 2, 2, none⟩) hR (fun k hk => ne 2 k (by omega) hk) _, Kd.S_far (p := ⟨w.heap.size + 2, 2, none⟩) (S_otherT h9 hg hr (by omega)) (fun k hk => ne 3 k (by omega) hk) _, hb.setCell (by simp) _, h11⟩
theorem GP.boxN (h : GP w W tapes own v14 l lm va bs vr rs) (hg : W.grownBy W1 vr.ownBlock) : W1.heap[w.heap.size + 2]? = some (.cells #[.int .i64 tapes, .int .i64 0, va, vr] 74 (0, 0)) := by
 obtain ⟨h1, h3, h5, h7, h8, h9, h10, h11⟩ := h
 exact (blk_otherT h1 hg (S_rowT h9) (by omega)).1
theorem GP.nxt (h : GP w W tapes own v14 l lm va bs vr rs) {v1 : Value} {rs1 : List (List Int)} (hR : Kd.S (Kd.slice 3 (Kd.int .i64)) 77 W1 w.heap.size (fun k => retag own W.heap.size 3 k = 3 ∨ retag own W.heap.size 3 k = 7) v1 rs1) (hb : Below w.heap.size w W1) (hg : W.grownBy W1 vr.ownBlock) : GP w (W1.setCell ⟨w.heap.size + 2, 3, none⟩ v1) tapes (merge73 (retag own W.heap.size 3)) v14 l lm va bs v1 rs1 := by
 obtain ⟨h1, h3, h5, h7, h8, h9, h10, h11⟩ := h
 have hr := S_rowT h9
 have b1 := blk_otherT h1 hg hr (by omega)
 have b0 := blk_otherT h5 hg hr (by omega)
 have bm := map_otherT h3 hg hr (by omega)
 have ne : ∀ s k, s ≠ 4 → retag own W.heap.size 3 k = s → k ≠ w.heap.size + 2 := fun s k hs hk he => hs (by rw [← hk, he, b1.2])
 have mg : ∀ s k, s ≠ 7 → retag own W.heap.size 3 k = s → merge73 (retag own W.heap.size 3) k = s := fun s k hs hk => by simp [merge73, hk, hs]
 refine ⟨⟨by simpa using blk_set b1.1 3 v1, mg 4 _ (by omega) b1.2⟩, ⟨bm.1.setCell (by simp) _, mg 5 _ (by omega) bm.2⟩, ⟨blk_far b0.1 (by simp) _, mg 6 _ (by omega) b0.2⟩, Kd.R_mono (Kd.R_far (p := ⟨w.heap.size + 2, 3, none⟩) (R_otherT h7 hg hr (by omega)) (fun k hk => ne 1 k (by omega) hk) _) (fun k hk => mg 1 k (by omega) hk), Kd.R_mono (Kd.R_far (p := ⟨w.heap.size + 2, 3, none⟩) (R_otherT h8 hg hr (by omega)) (fun k hk => ne 2 k (by omega) hk) _) (fun k hk => mg 2 k (by omega) hk), Kd.S_mono (Kd.S_far (p := ⟨w.heap.size + 2, 3, none⟩) hR (fun k hk => hk.elim (ne 3 k (by omega)) (ne 7 k (by omega))) _) (fun k hk => hk.elim (fun h => mg 3 k (by omega) h) (fun h => by simp [merge73, h])), hb.setCell (by simp) _, h11⟩
end
theorem litP_key (a : Int × Int) : WideAt.IsKeyLit (litP a) := trivial
theorem infoPl : (Tryd.prog.info? 151).map (fun i => (i.zero, i.size, i.bytes)) = some (some (.agg #[.int .i64 0, .int .i64 0]), 2, 16) := by kernel_rfl
/-- A box that stays (tag s). -/
def BoxAt (W : World) (own : Nat → Nat) (s g : Nat) (x : Int × Int) : Prop := W.heap[g]? = some (.cells #[.int .i64 x.1, .int .i64 x.2] 151 (0, 0)) ∧ own g = s
theorem gp_at {w W : World} {tapes : Int} {own : Nat → Nat} {v14 : Value} {l lm : List (Int × Int)} {va : Value} {bs : List Bool} {vr : Value} {rs : List (List Int)} (h : GP w W tapes own v14 l lm va bs vr rs) {i : Nat} {k : Int × Int} (hk : l[i]? = some k) :
  ∃ g c, v14 = .slice (some ⟨g, 0, none⟩) l.length c ∧ W.cell? ⟨g, i * 2, none⟩ = some (.int .i64 k.1) ∧ W.cell? ⟨g, i * 2 + 1, none⟩ = some (.int .i64 k.2) := by
 obtain ⟨_, _, _, h7, _⟩ := h
 have hi : i < l.length := (List.getElem?_eq_some_iff.1 hk).1
 obtain ⟨g, cap, hv, _⟩ := Kd.R_form h7 (by omega)
 subst hv
 obtain ⟨_, _, hC⟩ := Kd.R_reads' h7
 obtain ⟨ad, c, e, _, hK, hc⟩ := Kd.C_get hC (0, 0) (i : Int) (by omega) (by omega)
 injection e with e
 subst e
 have hget : l.getD (i : Int).toNat (0, 0) = k := by simp [List.getD_eq_getElem?_getD, hk]
 rw [hget] at hK
 obtain ⟨c1, c2, rfl, rfl, rfl⟩ := hK
 have h0 := hc 0 (.int .i64 k.1) rfl
 have h1 := hc 1 (.int .i64 k.2) rfl
 rw [add_plain] at h0 h1
 exact ⟨g, cap, rfl, by simpa [show kpl.sz = 2 from rfl] using h0, by simpa [show kpl.sz = 2 from rfl, Nat.add_assoc] using h1⟩
theorem gp_start {w w1 : World} {tapes : Int} {start : Int × Int} (hs : good2 start = true)
  (hown : w1.ownsMap Tryd.prog 151 (plainElem Tryd.prog 3) (w.heap.size + 3) (0 + 1) (DataW.put (.map [] : DataW Unit) (litP start) (.lit (.int .i64 0))))
  (hg : World.grownBy ((((w.alloc (.cells #[.int .i64 start.1, .int .i64 start.2] 151)).alloc (.cells #[.int .i64 0, .int .i64 0, .slice none 0 0, .slice none 0 0] 74)).alloc (.cells #[.int .i64 tapes, .int .i64 0, .slice none 0 0, .slice none 0 0] 74)).alloc (.map #[] 0)) w1 (some (w.heap.size + 3))) :
  GP w (w1.alloc (.cells #[.int .i64 start.1, .int .i64 start.2] 151)) tapes (fun k => if k = w.heap.size + 2 then 4 else if k = w.heap.size + 3 then 5 else if k = w.heap.size + 1 then 6 else 1) (.slice (some ⟨w1.heap.size, 0, none⟩) 1 1) [start] [start] (.slice none 0 0) [] (.slice none 0 0) [] := by
 have hsz : w.heap.size + 4 ≤ w1.heap.size := by have := hg.size; simp at this; omega
 have hB : Below w.heap.size w w1 := by
  refine Below.trans (((((Below.refl _ w).alloc (Nat.le_refl _) _).alloc (by simp) _).alloc (by simp; omega) _).alloc (by simp; omega) _) ⟨hg.os, hg.tape, hg.output, hg.size, fun k hk => hg.block k (by simp; omega) (by simp; omega)⟩
 have hB2 := hB.alloc (by omega) (.cells #[.int .i64 start.1, .int .i64 start.2] 151)
 have h1 : w1.heap[w.heap.size + 2]? = some (.cells #[.int .i64 tapes, .int .i64 0, .slice none 0 0, .slice none 0 0] 74 (0, 0)) := by
  rw [hg.block _ (by simp) (by simp)]
  exact blk_alloc (by have := blk_new ((w.alloc (.cells #[.int .i64 start.1, .int .i64 start.2] 151)).alloc (.cells #[.int .i64 0, .int .i64 0, .slice none 0 0, .slice none 0 0] 74)) (.cells #[.int .i64 tapes, .int .i64 0, .slice none 0 0, .slice none 0 0] 74); simpa using this) _
 have h0 : w1.heap[w.heap.size + 1]? = some (.cells #[.int .i64 0, .int .i64 0, .slice none 0 0, .slice none 0 0] 74 (0, 0)) := by
  rw [hg.block _ (by simp) (by simp)]
  exact blk_alloc (blk_alloc (by have := blk_new (w.alloc (.cells #[.int .i64 start.1, .int .i64 start.2] 151)) (.cells #[.int .i64 0, .int .i64 0, .slice none 0 0, .slice none 0 0] 74); simpa using this) _) _
 refine ⟨⟨blk_alloc h1 _, by simp⟩, ⟨?_, by simp⟩, ⟨blk_alloc h0 _, by simp⟩, ?_, Kd.R_nil _ _ _ _ _, Kd.S_nil _ _ _ _ _, hB2, by simp, by simpa using hs, by simp⟩
 ·have := hown.alloc (.cells #[.int .i64 start.1, .int .i64 start.2] 151)
  simpa [idsD] using this
 ·exact R_one (d := kpl) w1 start [.int .i64 start.1, .int .i64 start.2] _ ⟨[.int .i64 start.1], [.int .i64 start.2], rfl, rfl, rfl⟩ rfl (by omega) (by show (if w1.heap.size = _ then _ else _) = 1; rw [if_neg (by omega), if_neg (by omega), if_neg (by omega)])
section
variable {w W W1 w1 w2 : World} {tapes : Int} {own : Nat → Nat} {v14 : Value} {l lm : List (Int × Int)} {va : Value} {bs : List Bool} {vr : Value} {rs : List (List Int)}
theorem GP.tag (h : GP w W tapes own v14 l lm va bs vr rs) (t : Nat) : GP w W tapes (retag own W.heap.size t) v14 l lm va bs vr rs := by
 obtain ⟨h1, h3, h5, h7, h8, h9, h10⟩ := h
 exact ⟨⟨h1.1, by rw [retag_lt (blk_lt h1.1)]; exact h1.2⟩, ⟨h3.1, by rw [retag_lt h3.1.lt]; exact h3.2⟩, ⟨h5.1, by rw [retag_lt (blk_lt h5.1)]; exact h5.2⟩, R_tag h7 t, R_tag h8 t, S_tagged h9 t, h10⟩
theorem box_below {g : Nat} {a b : Value} (hg : g = W.heap.size) (hb : Below W.heap.size W w1) (hw : w2 = (w1.setCell ⟨g, 0, none⟩ a).setCell ⟨g, 1, none⟩ b) : Below W.heap.size W w2 := by
 subst hw
 subst hg
 exact (hb.setCell (Nat.le_refl _) _).setCell (Nat.le_refl _) _
theorem BoxAt.cell0 {s g : Nat} {x : Int × Int} (h : BoxAt W own s g x) : W.cell? ⟨g, 0, none⟩ = some (.int .i64 x.1) := (blk_cell h.1 0).trans rfl
theorem BoxAt.cell1 {s g : Nat} {x : Int × Int} (h : BoxAt W own s g x) : W.cell? ⟨g, 1, none⟩ = some (.int .i64 x.2) := (blk_cell h.1 1).trans rfl
theorem BoxAt.below {s g : Nat} {x : Int × Int} (h : BoxAt W own s g x) (hb : Below W.heap.size W W1) : BoxAt W1 own s g x := ⟨blk_below h.1 hb, h.2⟩
theorem BoxAt.tag {s g : Nat} {x : Int × Int} (h : BoxAt W own s g x) (t : Nat) : BoxAt W (retag own W.heap.size t) s g x := ⟨h.1, by rw [retag_lt (blk_lt h.1)]; exact h.2⟩
theorem BoxAt.otherT {s g : Nat} {x : Int × Int} (h : BoxAt W own s g x) {row : Option Nat} {t : Nat} (hg : W.grownBy W1 row) (hr : ∀ k, row = some k → retag own W.heap.size t k = t) (hst : s ≠ t) : BoxAt W1 (retag own W.heap.size t) s g x := blk_otherT h hg hr hst
theorem BoxAt.new {g t : Nat} {x : Int × Int} {c0 c1 : Value} (hX : w1.heap[g]? = some (.cells #[c0, c1] 151 (0, 0))) (hg : g = W.heap.size) (hw : w2 = (w1.setCell ⟨g, 0, none⟩ (.int .i64 x.1)).setCell ⟨g, 1, none⟩ (.int .i64 x.2)) : BoxAt w2 (retag own W.heap.size t) t g x := by
 subst hw
 refine ⟨?_, by rw [retag_ge (by omega)]⟩
 have := blk_set (blk_set hX 0 (.int .i64 x.1)) 1 (.int .i64 x.2)
 simpa using this
theorem BoxAt.far {s g : Nat} {x : Int × Int} (h : BoxAt W own s g x) {p : Addr} (hp : g ≠ p.block) (u : Value) : BoxAt (W.setCell p u) own s g x := ⟨blk_far h.1 hp u, h.2⟩
end
abbrev idxP (l : List (Int × Int)) (x : Int × Int) : Nat := @List.idxOf (Int × Int) instBEqOfDecidableEq x l
set_option maxHeartbeats 4000000 in
set_option maxRecDepth 100000 in
theorem grow_place_calls {acc : Int × Int → Option Bool} {next : Int × Int → Int → Option (Int × Int)} {W : Nat} {na nn : FuncId} {ca cn : Array Value} {tapes : Int} {start : Int × Int} {kw f : Nat} {as1 : List Bool} {rs1 : List (List Int)} (w : World)
  (hA : CloOK Tryd.prog w na ca (fun x : Int × Int => #[.agg #[.int .i64 x.1, .int .i64 x.2]]) acc Value.bool) (hN : CloOK Tryd.prog w nn cn (fun x : (Int × Int) × Int => #[.agg #[.int .i64 x.1.1, .int .i64 x.1.2], .int .i64 x.2]) (fun x => next x.1 x.2) (fun r : Int × Int => .agg #[.int .i64 r.1, .int .i64 r.2]))
  (hw : impl_widthOf.f kw tapes = some (W : Int)) (hW : W ≤ 1000) (hs : good2 start = true) (h : growL good2 acc next W f [start] [] [] = some (as1, rs1)) :
  Calls Tryd.prog 145 #[.int .i64 tapes, .agg #[.int .i64 start.1, .int .i64 start.2], .int .i64 0, .func (.func na) #[] ca, .func (.func nn) #[] cn] w (GrowPost w tapes as1 rs1) := by
 have HA := Aside0.mk hA
 have HN := Aside0.mk hN
 have HW := Aside0.mk hw
 have HH := Aside0.mk h
 have HS := Aside0.mk hs
 clear hA hN hw h hs
 have hmm := @run_makeMap Tryd.prog
 have hown0 : ((((w.alloc (.cells #[.int .i64 start.1, .int .i64 start.2] 151)).alloc (.cells #[.int .i64 0, .int .i64 0, .slice none 0 0, .slice none 0 0] 74)).alloc (.cells #[.int .i64 tapes, .int .i64 0, .slice none 0 0, .slice none 0 0] 74)).alloc (.map #[] 0)).ownsMap Tryd.prog 151 (plainElem Tryd.prog 3) (w.heap.size + 3) 0 (.map [] : DataW Unit) := made_at _ (by simp)
 obtain ⟨w1, hrun, hown1, hg1⟩ := hown0.update place_keyed Tryd.underlying168 (by unfold maxLen; omega) (key := .agg #[.int .i64 start.1, .int .i64 start.2]) (val := .int .i64 0) (keyOf_place HS.out) (plainElem_int Tryd.underlying3 (by decide))
 have hs0 : w1.heap[w.heap.size]? = some (.cells #[.int .i64 start.1, .int .i64 start.2] 151 (0, 0)) := by
  rw [hg1.block _ (by first | (simp; done) | (simp; omega)) (by first | (simp; done) | (simp; omega))]
  exact blk_alloc (blk_alloc (blk_alloc (blk_new w _) _) _) _
 have s0 : w1.cell? ⟨w.heap.size, 0, none⟩ = some (.int .i64 start.1) := (blk_cell hs0 0).trans rfl
 have s1 : w1.cell? ⟨w.heap.size, 1, none⟩ = some (.int .i64 start.2) := (blk_cell hs0 1).trans rfl
 clear hs0
 have HO1 := Aside0.mk hown1
 have HG1 := Aside0.mk hg1
 clear hown0 hown1 hg1
 obtain ⟨fa, ha1, ha2, ha3⟩ := HA.out.fn
 obtain ⟨fb, hb1, hb2, hb3⟩ := HN.out.fn
 have hea := fun args W' => enters_ (P := Tryd.prog) ha1 ha2 ha3 args W'
 have heb := fun args W' => enters_ (P := Tryd.prog) hb1 hb2 hb3 args W'
 clear ha1 ha2 ha3 hb1 hb2 hb3
 go_enter Tryd.func145, Tryd.ntmps145
 go_wp2
 have HI := Aside0.mk (gp_start HS.out HO1.out HG1.out)
 clear HO1 HG1 hmm hrun s0 s1
 generalize w1.alloc _ = W0 at HI ⊢
 generalize (Value.slice (some { block := w1.heap.size, off := 0 }) 1 1) = v0 at HI ⊢
 go_loopg [14, 15] f (fun kq v14 v15 w' => ∃ (own : Nat → Nat) (l : List (Int × Int)) (va : Value) (bs : List Bool) (vr : Value) (rs : List (List Int)), v15 = .int .i64 (bs.length : Int) ∧ Aside0 (GP w w' tapes own v14 l l va bs vr rs) ∧ Aside0 (growL good2 acc next W kq l bs rs = some (as1, rs1)) ∧ Aside0 (rs.length = bs.length))
 case atStart => exact ⟨_, [start], .slice none 0 0, [], .slice none 0 0, [], by simp, HI, HH, ⟨by simp⟩⟩
 case round =>
  clear HI HH
  obtain ⟨own, l, va, bs, vr, rs, rfl, HI, HL, HRL⟩ := hrel
  cases gk with
  | zero => exact absurd HL.out (by simp [growL])
  | succ k1 =>
   have H := HL.out
   clear HL
   simp only [growL] at H
   cases hk : l[bs.length]? with
   | none =>
    rw [hk] at H
    obtain ⟨rfl, rfl⟩ := Prod.mk.inj (Option.some.inj H)
    have hle : l.length ≤ bs.length := List.getElem?_eq_none_iff.1 hk
    clear H hk
    obtain ⟨⟨b1, -⟩, -, ⟨b0, -⟩, r14, rva, rvr, hB, -⟩ := HI.out
    obtain ⟨A14, c14, rfl⟩ := Kd.R_slice r14
    obtain ⟨Aa, cva, rfl⟩ := Kd.R_slice rva
    obtain ⟨An, cvr, rfl⟩ := Kd.S_slice rvr
    have c1 : decide ((bs.length : Int) < (l.length : Int)) = false := decide_eq_false (by omega)
    have c2 : decide (bs.length < l.length) = false := decide_eq_false (by omega)
    have RA := Aside0.mk rva
    have RN := Aside0.mk rvr
    have HB := Aside0.mk hB
    have B0 := Aside0.mk b0
    have m0 : wr.cell? ⟨w.heap.size + 2, 0, none⟩ = some (.int .i64 tapes) := (blk_cell b1 0).trans rfl
    have m1 : wr.cell? ⟨w.heap.size + 2, 1, none⟩ = some (.int .i64 0) := (blk_cell b1 1).trans rfl
    have m2 : wr.cell? ⟨w.heap.size + 2, 2, none⟩ = some (.slice Aa bs.length cva) := (blk_cell b1 2).trans rfl
    have m3 : wr.cell? ⟨w.heap.size + 2, 3, none⟩ = some (.slice An rs.length cvr) := (blk_cell b1 3).trans rfl
    have n0 : wr.cell? ⟨w.heap.size + 1, 0, none⟩ = some (.int .i64 0) := (blk_cell b0 0).trans rfl
    have n1 : wr.cell? ⟨w.heap.size + 1, 1, none⟩ = some (.int .i64 0) := (blk_cell b0 1).trans rfl
    have n2 : wr.cell? ⟨w.heap.size + 1, 2, none⟩ = some (.slice none 0 0) := (blk_cell b0 2).trans rfl
    have n3 : wr.cell? ⟨w.heap.size + 1, 3, none⟩ = some (.slice none 0 0) := (blk_cell b0 3).trans rfl
    have f0 := blk_frozen b0 0
    have f1 := blk_frozen b0 1
    have f2 := blk_frozen b0 2
    have f3 := blk_frozen b0 3
    clear r14 rva rvr hB b1 b0 HI hle
    go_wp2
    refine bodyPost_ret (v := .tuple #[.agg #[.int .i64 tapes, .int .i64 0, .slice Aa bs.length cva, .slice An rs.length cvr], .bool true]) (by simp [results, Tryd.results145, go_sem, n0, n1, n2, n3]) rfl ⟨_, _, rfl, ?_, ?_, ?_⟩
    ·exact Kd.R_mono (R_set4 RA.out B0.out (by decide) _ _ _ _) (fun _ _ => trivial)
    ·exact Kd.S_mono (S_set4 RN.out B0.out (by decide) _ _ _ _) (fun _ _ => trivial)
    ·exact below_set4 HB.out (Nat.le_succ _) _ _ _ _
   | some k =>
    rw [hk] at H
    simp only [] at H
    obtain ⟨⟨l1, row1⟩, hrow, H⟩ := Option.bind_eq_some_iff.mp H
    obtain ⟨a1, hacc, H⟩ := Option.bind_eq_some_iff.mp H
    obtain ⟨g, c14, rfl, hcell0, hcell1⟩ := gp_at HI.out hk
    have hlt : bs.length < l.length := (List.getElem?_eq_some_iff.1 hk).1
    have c1 : decide ((bs.length : Int) < (l.length : Int)) = true := decide_eq_true (by omega)
    have c2 : decide (bs.length < l.length) = true := decide_eq_true (by omega)
    have HR := Aside0.mk hrow
    have HC := Aside0.mk hacc
    have HG := Aside0.mk H
    clear H hrow hacc hk
    go_wp2_with (first | ((with_reducible refine gate_dst (N := 16) rfl ?_); refine box_event ?hg (N := 16) ?hd (cs := #[.int .i64 0, .int .i64 0]) (t := 151) ?hr ?_; (case hd => rfl); (case hg => rfl); (case hr => first | (go_simp; done) | (go_simp; rfl)); intro g16 hg16 w3 hbox hb; have HX3 := Aside0.mk hbox; have HB3 := Aside0.mk hb; have HE3 := Aside0.mk hg16; clear hbox hb hg16; have q0 : w3.cell? ⟨g16, 0, none⟩ = some (.int .i64 0) := (blk_cell HX3.out 0).trans rfl; have q1 : w3.cell? ⟨g16, 1, none⟩ = some (.int .i64 0) := (blk_cell HX3.out 1).trans rfl; have u0 := blk_frozen HX3.out 0; have u1 := blk_frozen HX3.out 1) | ((with_reducible refine gate_store (t := 151) (p := 16) rfl ?_); refine store_event (t := 151) (p := 16) (v := .tmp 38) (w1 := ((w3.setCell ⟨g16, 0, none⟩ (.int .i64 k.1)).setCell ⟨g16, 1, none⟩ (.int .i64 k.2))) ?hg ?ho ?hn ?hr ?_; (case ho => rfl); (case hg => rfl); (case hn => rfl); (case hr => first | (go_simp; done) | (go_simp; rfl)); intro w4 hw; have hb4 := box_below HE3.out HB3.out hw; have HI4 := Aside0.mk ((GP.tag HI.out 9).below hb4); have HK4 := Aside0.mk (BoxAt.new (own := own) (t := 9) (x := k) HX3.out HE3.out hw); clear hw hb4 HX3 HB3 HE3 q0 q1 u0 u1 hcell0 hcell1))
    go_loopg [14, 17, 18] W (fun kq v14 v17 v18 w' => ∃ (own : Nat → Nat) (l' : List (Int × Int)) (row : List Int) (c : Nat), v18 = .int .i64 (c : Int) ∧ Aside0 (c + kq = W) ∧ Aside0 (GP w w' tapes own v14 l' l' va bs vr rs ∧ (Kd.int .i64).R 3 w' w.heap.size (fun k => own k = 7) v17 row) ∧ Aside0 (growRow good2 (next k) kq (c : Int) l' row = some (l1, row1)) ∧ Aside0 (row.length = c ∧ bs.length ≤ l'.length ∧ bs.length < l'.length) ∧ Aside0 (BoxAt w' own 9 g16 k))
    case atStart => exact ⟨_, l, [], 0, by simp, ⟨by omega⟩, ⟨HI4.out, Kd.R_nil _ _ _ _ _⟩, ⟨HR.out⟩, ⟨rfl, by omega, hlt⟩, HK4⟩
    case round =>
     clear HI HI4 HK4 HR c1 c2 hlt
     obtain ⟨own, l', row, c, rfl, HCW, HI2, HR2, HN2, HK2⟩ := hrel
     cases gk with
     | zero =>
      have e := HR2.out
      simp only [growRow] at e
      obtain ⟨rfl, rfl⟩ := Prod.mk.inj (Option.some.inj e)
      have hcw := HCW.out
      have c1 : decide ((c : Int) < (W : Int)) = false := decide_eq_false (by omega)
      have c2 : decide (c < W) = false := decide_eq_false (by omega)
      clear e HR2 hcw
      go_wp2_with (first | (go_at_call 96; (with_reducible refine (impl_widthOf.calls kw tapes (W : Int) _ HW.out).mono ?_); rintro e w' ⟨rfl, ⟨nd, rfl⟩⟩))
      have HI3 := Aside0.mk ((HI2.out.1.below (pw_below_drewN (Below.refl _ _) nd)).below (below_drew (Below.refl _ _)))
      have HR3 := Aside0.mk (Kd.R_below (Kd.R_below HI2.out.2 (pw_below_drewN (Below.refl _ _) nd)) (below_drew (Below.refl _ _)))
      have HK3 := Aside0.mk ((HK2.out.below (pw_below_drewN (Below.refl _ _) nd)).below (below_drew (Below.refl _ _)))
      obtain ⟨Aa, cva, hva⟩ := Kd.R_slice HI3.out.2.2.2.2.1
      subst hva
      have hS : (wr.drewN nd).drew.cell? ⟨w.heap.size + 2, 2, none⟩ = some (.slice Aa bs.length cva) ∧ (wr.drewN nd).drew.cell? ⟨g16, 0, none⟩ = some (.int .i64 k.1) ∧ (wr.drewN nd).drew.cell? ⟨g16, 1, none⟩ = some (.int .i64 k.2) := ⟨(blk_cell HI3.out.1.1 2).trans rfl, HK3.out.cell0, HK3.out.cell1⟩
      clear HI2 HK2
      refine start_ (n := 9) (S := fun w' => w'.cell? ⟨w.heap.size + 2, 2, none⟩ = some (.slice Aa bs.length cva) ∧ w'.cell? ⟨g16, 0, none⟩ = some (.int .i64 k.1) ∧ w'.cell? ⟨g16, 1, none⟩ = some (.int .i64 k.2)) (ds := [8]) #[false, false, false, false, false, false, false, false, false] (by kernel_rfl) rfl rfl hS (fun hHeld => ?_)
      generalize (wr.drewN nd).drew = w3 at HI3 HR3 HK3 hS hHeld ⊢
      refine pure_ (i := 0) (N := some 79) (v := ?_) (a' := ?_) #[true, false, false, false, false, false, false, false, false] rfl rfl (by kernel_rfl) (fun _ _ _ h => h) (Or.inl ⟨by rfl, ?_⟩) ?_ ?_
      rotate_left
      ·intro w'
       go_simp
       with_reducible rfl
      rotate_left
      ·simp only [Act.put, List.setIfInBounds_toArray, List.set_cons_zero, List.set_cons_succ]
       rfl
      refine take_ (i := 1) (N := some 80) (v := ?_) (a' := ?_) #[true, true, false, false, false, false, false, false, false] rfl rfl (by kernel_rfl) (fun _ _ _ h => h) (Or.inl ⟨by rfl, ?_⟩) hHeld ?_ ?_
      rotate_left
      ·rintro w' ⟨s0, s1, s2⟩
       go_simp
       with_reducible rfl
      rotate_left
      ·simp only [Act.put, List.setIfInBounds_toArray, List.set_cons_zero, List.set_cons_succ]
       rfl
      refine pure_ (i := 2) (N := some 81) (v := ?_) (a' := ?_) #[true, true, true, false, false, false, false, false, false] rfl rfl (by kernel_rfl) (fun _ _ _ h => h) (Or.inl ⟨by rfl, ?_⟩) ?_ ?_
      rotate_left
      ·intro w'
       go_simp
       with_reducible rfl
      rotate_left
      ·simp only [Act.put, List.setIfInBounds_toArray, List.set_cons_zero, List.set_cons_succ]
       rfl
      refine take_ (i := 3) (N := some 82) (v := ?_) (a' := ?_) #[true, true, true, true, false, false, false, false, false] rfl rfl (by kernel_rfl) (fun _ _ _ h => h) (Or.inl ⟨by rfl, ?_⟩) hHeld ?_ ?_
      rotate_left
      ·rintro w' ⟨s0, s1, s2⟩
       go_simp
       with_reducible rfl
      rotate_left
      ·simp only [Act.put, List.setIfInBounds_toArray, List.set_cons_zero, List.set_cons_succ]
       rfl
      refine one_ (i := 4) (N := some 83) #[true, true, true, true, true, false, false, false, false] rfl rfl (by kernel_rfl) (by decide) (fun K hK => ?_)
      obtain ⟨fa, ha1, ha2, ha3⟩ := HA.out.fn
      refine call_ na (#[.agg #[.int .i64 k.1, .int .i64 k.2]] ++ ca) (by rfl) rfl (runs_val ha1 ha2 ha3 _ rfl rfl (by (try simp only [List.map_toArray, List.map_cons, List.map_nil]); rfl)) ?_
      refine (HA.out.run k a1 w3 HI3.out.2.2.2.2.2.2.1 HC.out).mono ?_
      rintro e w4 ⟨rfl, hb4⟩
      refine ⟨_, rfl, ?_⟩
      have HI4 := Aside0.mk (HI3.out.below hb4)
      have HR4 := Aside0.mk (Kd.R_below HR3.out hb4)
      have HK4 := Aside0.mk (HK3.out.below hb4)
      clear HI3 HR3 HK3 hS hHeld hb4
      refine hK.out _ _ ⟨(blk_cell HI4.out.1.1 2).trans rfl, HK4.out.cell0, HK4.out.cell1⟩ (fun hHeld => ?_)
      clear hK K
      refine norm_ (a' := ?_) ?_ ?_
      rotate_left
      ·show Act.put _ (some 83) _ = _
       simp only [Act.put, List.setIfInBounds_toArray, List.set_cons_zero, List.set_cons_succ]
       rfl
      refine one_ (i := 5) (N := some 84) #[true, true, true, true, true, true, false, false, false] rfl rfl (by kernel_rfl) (by decide) (fun K hK => ?_)
      refine value_ (v := .slice (some ⟨w4.heap.size, 0, none⟩) 1 1) (w1 := w4.alloc (.cells #[.bool a1] 4)) (by rfl) rfl ?_ ?_
      ·go_simp
      refine hK.out _ _ ⟨(blk_cell (blk_alloc HI4.out.1.1 _) 2).trans rfl, (blk_cell (blk_alloc HK4.out.1 _) 0).trans rfl, (blk_cell (blk_alloc HK4.out.1 _) 1).trans rfl⟩ (fun hHeld => ?_)
      clear hK K
      refine norm_ (a' := ?_) ?_ ?_
      rotate_left
      ·show Act.put _ (some 84) _ = _
       simp only [Act.put, List.setIfInBounds_toArray, List.set_cons_zero, List.set_cons_succ]
       rfl
      refine one_ (i := 6) (N := some 85) #[true, true, true, true, true, true, true, false, false] rfl rfl (by kernel_rfl) (by decide) (fun K hK => ?_)
      refine Kd.R_append_step Kd.bool (w0 := w) w.heap.size (by rfl) (.tmp 80) (.tmp 84) 22 4 (.bool false) 1 rfl Tryd.underlying22 info4 rfl (by decide) (by omega) (.slice Aa bs.length cva) bs a1 [.bool a1] (fun k => retag own w4.heap.size 2 k = 2) (fun _ => False) rfl rfl rfl (fun _ hk => hk.elim) (fun _ hk => retag_ge hk) (R_tag HI4.out.2.2.2.2.1 2) HI4.out.2.2.2.2.2.2.1 HI4.out.2.2.2.2.2.2.1.size (by have := HN2.out.2.1; have := HI4.out.2.2.2.2.2.2.2.2.2; omega) ?_
      intro v5 w5 ho hb hg hat
      obtain ⟨A5, c5, hv5⟩ := Kd.R_slice ho
      subst hv5
      have b5 := GP.box HI4.out hg
      have HI5 := Aside0.mk (GP.acc HI4.out ho hb hg)
      have HR5 := Aside0.mk (Kd.R_far (p := ⟨w.heap.size + 2, 2, none⟩) (R_otherT (t := 2) HR4.out hg (R_rowT HI4.out.2.2.2.2.1) (by omega)) (fun k hk he => by have := HI5.out.1.2; rw [he] at hk; simp only at hk; omega) (.slice A5 (bs ++ [a1]).length c5))
      have HK5 := Aside0.mk (HK4.out.otherT hg (R_rowT HI4.out.2.2.2.2.1) (by omega))
      have m5 : w5.cell? ⟨w.heap.size + 2, 2, none⟩ = some (.slice Aa bs.length cva) := (blk_cell b5 2).trans rfl
      have f5 := blk_frozen b5 2
      clear HI4 HR4 HK4 ho hb hg hat b5
      refine hK.out _ _ ⟨m5, HK5.out.cell0, HK5.out.cell1⟩ (fun hHeld => ?_)
      clear hK K
      refine norm_ (a' := ?_) ?_ ?_
      rotate_left
      ·show Act.put _ (some 85) _ = _
       simp only [Act.put, List.setIfInBounds_toArray, List.set_cons_zero, List.set_cons_succ]
       rfl
      refine one_ (i := 7) (N := some 86) #[true, true, true, true, true, true, true, true, false] rfl rfl (by kernel_rfl) (by decide) (fun K hK => ?_)
      refine value_ (v := .pointer (some ⟨w.heap.size + 2, 2, none⟩)) (w1 := w5) (by rfl) rfl ?_ ?_
      ·go_simp
      refine hK.out _ _ ⟨m5, HK5.out.cell0, HK5.out.cell1⟩ (fun hHeld => ?_)
      clear hK K
      refine norm_ (a' := ?_) ?_ ?_
      rotate_left
      ·show Act.put _ (some 86) _ = _
       simp only [Act.put, List.setIfInBounds_toArray, List.set_cons_zero, List.set_cons_succ]
       rfl
      refine last_ (i := 8) (N := none) #[true, true, true, true, true, true, true, true, true] rfl rfl (by kernel_rfl) (by decide) (fun K hK => ?_)
      refine skip_ (w1 := w5.setCell ⟨w.heap.size + 2, 2, none⟩ (.slice A5 (bs ++ [a1]).length c5)) (by rfl) rfl ?_ ?_
      ·go_simp
      refine hK.out _ _ ?_
      clear hK K
      refine done_ (by kernel_rfl) ?_
      clear m5 f5 hHeld HK5
      generalize w5.setCell _ _ = w6 at HI5 HR5 ⊢
      obtain ⟨An, cvr, hvr⟩ := Kd.S_slice HI5.out.2.2.2.2.2.1
      subst hvr
      obtain ⟨Ar, cr, hr17⟩ := Kd.R_slice HR5.out
      subst hr17
      have m3 : w6.cell? ⟨w.heap.size + 2, 3, none⟩ = some (.slice An rs.length cvr) := (blk_cell HI5.out.1.1 3).trans rfl
      have hrl : row.length < 1000000 := by have := HN2.out.1; have := HCW.out; omega
      go_wp2_with (first | ((with_reducible refine gate_builtin (b := .append) (xs := #[.tmp 88, .tmp 90]) rfl ?_); at_builtin; refine Kd.S_append (Kd.slice 3 (Kd.int .i64)) (w0 := w) w.heap.size rfl (.tmp 88) (.tmp 90) 72 77 (.slice none 0 0) 24 rfl Tryd.underlying72 infoG77 rfl (by decide) (by omega) (.slice An rs.length cvr) rs row [.slice Ar row.length cr] (fun k => retag (retag own w4.heap.size 2) w6.heap.size 3 k = 3 ∨ retag (retag own w4.heap.size 2) w6.heap.size 3 k = 7) (fun k => retag (retag own w4.heap.size 2) w6.heap.size 3 k = 7) rfl rfl ?aP ?aK ?aF ?aO ?aB ?aS ?aL ?_; (case aP => exact ⟨_, rfl, R_tag HR5.out 3⟩); (case aK => intro k hk; exact ⟨Or.inr hk, fun he => by have := S_rowT HI5.out.2.2.2.2.2.1 k he.symm; omega⟩); (case aF => exact (fun _ hk => Or.inl (retag_ge hk))); (case aO => exact Kd.S_mono (S_tagged HI5.out.2.2.2.2.2.1 3) (fun k hk => ⟨Or.inl hk, by omega⟩)); (case aB => exact HI5.out.2.2.2.2.2.2.1); (case aS => exact HI5.out.2.2.2.2.2.2.1.size); (case aL => have := HN2.out.2.1; have := HI5.out.2.2.2.2.2.2.2.2.2; have := HRL.out; omega); intro v7 w7 ho hb hg hat; obtain ⟨A7, c7, hv7⟩ := Kd.S_slice ho; subst hv7; have b7 := GP.boxN HI5.out hg; have HI6 := Aside0.mk (GP.nxt HI5.out ho hb hg); have m7 : w7.cell? ⟨w.heap.size + 2, 3, none⟩ = some (.slice An rs.length cvr) := (blk_cell b7 3).trans rfl; have f7 := blk_frozen b7 3; clear HI5 HR5 ho hb hg hat b7 m3))
      go_roundg k1
      case measure => omega
      case rel =>
       have q1 := HN2.out.2.1
       have q2 := HI6.out.2.2.2.2.2.2.2.2.2
       exact ⟨_, l', _, bs ++ [a1], _, rs ++ [row], by rw [show (bs ++ [a1]).length = bs.length + 1 by simp, show wrap64 ((bs.length : Int) + 1) = (bs.length : Int) + 1 by unfold wrap64; omega]; rfl, by have h_ := HI6; rw [show (rs ++ [row]).length = rs.length + 1 by simp] at h_; exact h_, ⟨by have h_ := HG.out; simpa using h_⟩, ⟨by have := HRL.out; simp; omega⟩⟩
     | succ k2 =>
      have H := HR2.out
      simp only [growRow] at H
      obtain ⟨x, hnx, H⟩ := Option.bind_eq_some_iff.mp H
      have hcw := HCW.out
      have c1 : decide ((c : Int) < (W : Int)) = true := decide_eq_true (by omega)
      have c2 : decide (c < W) = true := decide_eq_true (by omega)
      have b1 : c < 1000 := by omega
      clear hcw HR2
      by_cases hg : good2 x = true
      ·rw [if_pos hg] at H
       have HX := Aside0.mk hg
       have HNX := Aside0.mk hnx
       clear hg hnx
       obtain ⟨A14, c14', hv14⟩ := Kd.R_slice HI2.out.1.2.2.2.1
       subst hv14
       by_cases hm : x ∈ l'
       ·rw [if_pos hm] at H
        have HM := Aside0.mk hm
        have H' := Aside0.mk H
        have z0 := HK2.out.cell0
        have z1 := HK2.out.cell1
        clear hm H
        go_wp2_with (first | (go_at_call 96; (with_reducible refine (impl_widthOf.calls kw tapes (W : Int) _ HW.out).mono ?_); rintro e w' ⟨rfl, ⟨nd, rfl⟩⟩))
        refine (HN.out.run (k, (c : Int)) x _ ?hB HNX.out).mono ?_
        case hB => exact pw_below_drewN HI2.out.1.2.2.2.2.2.2.1 _
        rintro e w2 ⟨rfl, hb2⟩
        have HI3 := Aside0.mk ((HI2.out.1.below (pw_below_drewN (Below.refl _ _) nd)).below hb2)
        have HR3 := Aside0.mk (Kd.R_below (Kd.R_below HI2.out.2 (pw_below_drewN (Below.refl _ _) nd)) hb2)
        have HK3 := Aside0.mk ((HK2.out.below (pw_below_drewN (Below.refl _ _) nd)).below hb2)
        clear hb2 HI2 HK2 z0 z1
        go_wp2_with (first | ((with_reducible refine gate_dst (N := 19) rfl ?_); refine box_event ?hg (N := 19) ?hd (cs := #[.int .i64 0, .int .i64 0]) (t := 151) ?hr ?_; (case hd => rfl); (case hg => rfl); (case hr => first | (go_simp; done) | (go_simp; rfl)); intro g19 hg19 w3 hbox hb; have HX3 := Aside0.mk hbox; have HB3 := Aside0.mk hb; have HE3 := Aside0.mk hg19; clear hbox hb hg19; have q0 : w3.cell? ⟨g19, 0, none⟩ = some (.int .i64 0) := (blk_cell HX3.out 0).trans rfl; have q1 : w3.cell? ⟨g19, 1, none⟩ = some (.int .i64 0) := (blk_cell HX3.out 1).trans rfl; have u0 := blk_frozen HX3.out 0; have u1 := blk_frozen HX3.out 1) | ((with_reducible refine gate_store (t := 151) (p := 19) rfl ?_); refine store_event (t := 151) (p := 19) (v := .tmp 48) (w1 := ((w3.setCell ⟨g19, 0, none⟩ (.int .i64 x.1)).setCell ⟨g19, 1, none⟩ (.int .i64 x.2))) ?hg ?ho ?hn ?hr ?_; (case ho => rfl); (case hg => rfl); (case hn => rfl); (case hr => first | (go_simp; done) | (go_simp; rfl)); intro w4 hw; have hb4 := box_below HE3.out HB3.out hw; have HI4 := Aside0.mk ((GP.tag HI3.out 10).below hb4); have HR4 := Aside0.mk (Kd.R_below (R_tag HR3.out 10) hb4); have HK4 := Aside0.mk ((HK3.out.tag 10).below hb4); have HT4 := Aside0.mk (BoxAt.new (own := own) (t := 10) (x := x) HX3.out HE3.out hw); have t0 := HT4.out.cell0; have t1 := HT4.out.cell1; clear hw hb4 HX3 HB3 HE3 HI3 HR3 HK3 q0 q1 u0 u1) | (at_lookup; refine wpList_ids_in _ (good := fun x => good2 x = true) rfl _ _ 168 rfl (fun a b ha hb => litP_inj ha hb) litP_key HI4.out.2.2.2.2.2.2.2.2.1 place_keyed Tryd.underlying168 Tryd.underlying3 (zero_int _) rfl HI4.out.2.1.1 HI4.out.2.2.2.2.2.2.2.1 _ x HX.out rfl (keyOf_place HX.out) HM.out ?_) | ((with_reducible refine gate_builtin (b := .append) (xs := #[.tmp 75, .tmp 77]) rfl ?_); at_builtin; refine Kd.R_append (Kd.int .i64) (w0 := w) w.heap.size rfl (.tmp 75) (.tmp 77) 77 3 (.int .i64 0) 8 rfl Tryd.underlying77 info3 rfl (by decide) (by omega) u17 row ((idxP l' x : Nat) : Int) [.int .i64 ((idxP l' x : Nat) : Int)] (fun k => retag (retag own w2.heap.size 10) w4.heap.size 7 k = 7) (fun _ => False) rfl rfl ?aP (fun _ hk => hk.elim) ?aF ?aO ?aB ?aS ?aL ?_; (case aP => exact rfl); (case aB => exact HI4.out.2.2.2.2.2.2.1); (case aF => exact (fun _ hk => retag_ge hk)); (case aO => exact R_tag HR4.out 7); (case aS => exact HI4.out.2.2.2.2.2.2.1.size); (case aL => have := HN2.out.1; omega); intro v5 w5 ho hb hg hat; have n0_ := Aside0.mk (GP.other HI4.out hg (R_rowT HR4.out) hb (by omega)); have n1_ := Aside0.mk ho; have n2_ := Aside0.mk (HK4.out.otherT hg (R_rowT HR4.out) (by omega)); clear HI4 HR4 HK4 HT4 ho hb hg hat))
        go_roundg k2
        case measure => omega
        case rel => exact ⟨_, l', row ++ [((idxP l' x : Nat) : Int)], c + 1, by go_num, ⟨by have := HCW.out; omega⟩, ⟨n0_.out, n1_.out⟩, ⟨by have h_ := H'.out; rwa [show (c : Int) + 1 = ((c + 1 : Nat) : Int) by omega] at h_⟩, ⟨by simp [HN2.out.1], HN2.out.2⟩, n2_⟩
       ·rw [if_neg hm] at H
        by_cases hl : l'.length < 1048576
        ·rw [if_pos hl] at H
         have HM := Aside0.mk hm
         have HL2 := Aside0.mk hl
         have H' := Aside0.mk H
         have z0 := HK2.out.cell0
         have z1 := HK2.out.cell1
         clear hm H
         go_wp2_with (first | (go_at_call 96; (with_reducible refine (impl_widthOf.calls kw tapes (W : Int) _ HW.out).mono ?_); rintro e w' ⟨rfl, ⟨nd, rfl⟩⟩))
         refine (HN.out.run (k, (c : Int)) x _ ?hB HNX.out).mono ?_
         case hB => exact pw_below_drewN HI2.out.1.2.2.2.2.2.2.1 _
         rintro e w2 ⟨rfl, hb2⟩
         have HI3 := Aside0.mk ((HI2.out.1.below (pw_below_drewN (Below.refl _ _) nd)).below hb2)
         have HR3 := Aside0.mk (Kd.R_below (Kd.R_below HI2.out.2 (pw_below_drewN (Below.refl _ _) nd)) hb2)
         have HK3 := Aside0.mk ((HK2.out.below (pw_below_drewN (Below.refl _ _) nd)).below hb2)
         clear hb2 HI2 HK2 z0 z1
         go_wp2_with (first | ((with_reducible refine gate_dst (N := 19) rfl ?_); refine box_event ?hg (N := 19) ?hd (cs := #[.int .i64 0, .int .i64 0]) (t := 151) ?hr ?_; (case hd => rfl); (case hg => rfl); (case hr => first | (go_simp; done) | (go_simp; rfl)); intro g19 hg19 w3 hbox hb; have HX3 := Aside0.mk hbox; have HB3 := Aside0.mk hb; have HE3 := Aside0.mk hg19; clear hbox hb hg19; have q0 : w3.cell? ⟨g19, 0, none⟩ = some (.int .i64 0) := (blk_cell HX3.out 0).trans rfl; have q1 : w3.cell? ⟨g19, 1, none⟩ = some (.int .i64 0) := (blk_cell HX3.out 1).trans rfl; have u0 := blk_frozen HX3.out 0; have u1 := blk_frozen HX3.out 1) | ((with_reducible refine gate_store (t := 151) (p := 19) rfl ?_); refine store_event (t := 151) (p := 19) (v := .tmp 48) (w1 := ((w3.setCell ⟨g19, 0, none⟩ (.int .i64 x.1)).setCell ⟨g19, 1, none⟩ (.int .i64 x.2))) ?hg ?ho ?hn ?hr ?_; (case ho => rfl); (case hg => rfl); (case hn => rfl); (case hr => first | (go_simp; done) | (go_simp; rfl)); intro w4 hw; have hb4 := box_below HE3.out HB3.out hw; have HI4 := Aside0.mk ((GP.tag HI3.out 10).below hb4); have HR4 := Aside0.mk (Kd.R_below (R_tag HR3.out 10) hb4); have HK4 := Aside0.mk ((HK3.out.tag 10).below hb4); have HT4 := Aside0.mk (BoxAt.new (own := own) (t := 10) (x := x) HX3.out HE3.out hw); have t0 := HT4.out.cell0; have t1 := HT4.out.cell1; clear hw hb4 HX3 HB3 HE3 HI3 HR3 HK3 q0 q1 u0 u1) | (at_lookup; refine wpList_ids_out _ (good := fun x => good2 x = true) rfl _ _ 168 rfl (fun a b ha hb => litP_inj ha hb) litP_key HI4.out.2.2.2.2.2.2.2.2.1 place_keyed Tryd.underlying168 Tryd.underlying3 (zero_int _) rfl HI4.out.2.1.1 HI4.out.2.2.2.2.2.2.2.1 _ x HX.out rfl (keyOf_place HX.out) HM.out ?_) | (at_mapUpdate; refine wpList_ids_put _ rfl _ _ _ 168 rfl place_keyed Tryd.underlying168 Tryd.underlying3 rfl HI4.out.2.1.1 ?uM _ x rfl (keyOf_place HX.out) rfl ?uL ?_; (case uM => unfold maxLen; omega); (case uL => omega); intro w5 hown5 hg5; have hq := GP.put HI4.out HM.out HX.out HL2.out hown5 hg5; have HI5 := Aside0.mk hq.1; have HR5 := Aside0.mk (R_otherT (t := 5) HR4.out hg5 hq.2 (by omega)); have HK5 := Aside0.mk (HK4.out.otherT hg5 hq.2 (by omega)); have HT5 := Aside0.mk (HT4.out.otherT hg5 hq.2 (by omega)); have t2 := HT5.out.cell0; have t3 := HT5.out.cell1; clear HI4 HR4 HK4 HT4 hq hown5 hg5) | ((with_reducible refine gate_builtin (b := .append) (xs := #[.tmp 62, .tmp 64]) rfl ?_); at_builtin; refine Kd.R_append kpl (w0 := w) w.heap.size rfl (.tmp 62) (.tmp 64) 169 151 (.agg #[.int .i64 0, .int .i64 0]) 16 rfl Tryd.underlying169 infoPl rfl (show 0 < 2 by decide) (by omega) (.slice A14 l'.length c14') l' x [.int .i64 x.1, .int .i64 x.2] (fun k => retag (retag (retag own w2.heap.size 10) w4.heap.size 5) w5.heap.size 1 k = 1) (fun _ => False) rfl rfl ?aP (fun _ hk => hk.elim) ?aF ?aO ?aB ?aS ?aL ?_; (case aP => exact ⟨[.int .i64 x.1], [.int .i64 x.2], rfl, rfl, rfl⟩); (case aB => exact HI5.out.2.2.2.2.2.2.1); (case aF => exact (fun _ hk => retag_ge hk)); (case aO => exact R_tag HI5.out.2.2.2.1 1); (case aS => exact HI5.out.2.2.2.2.2.2.1.size); (case aL => omega); intro v6 w6 ho hb hg hat; have HI6 := Aside0.mk (GP.push HI5.out ho hb hg); have HR6 := Aside0.mk (R_otherT (t := 1) HR5.out hg (R_rowT HI5.out.2.2.2.1) (by omega)); have HK6 := Aside0.mk (HK5.out.otherT hg (R_rowT HI5.out.2.2.2.1) (by omega)); clear HI5 HR5 HK5 HT5 t2 t3 ho hb hg hat) | ((with_reducible refine gate_builtin (b := .append) (xs := #[.tmp 75, .tmp 77]) rfl ?_); at_builtin; refine Kd.R_append (Kd.int .i64) (w0 := w) w.heap.size rfl (.tmp 75) (.tmp 77) 77 3 (.int .i64 0) 8 rfl Tryd.underlying77 info3 rfl (by decide) (by omega) u17 row (l'.length : Int) [.int .i64 (l'.length : Int)] (fun k => retag (retag (retag (retag own w2.heap.size 10) w4.heap.size 5) w5.heap.size 1) w6.heap.size 7 k = 7) (fun _ => False) rfl rfl ?aP (fun _ hk => hk.elim) ?aF ?aO ?aB ?aS ?aL ?_; (case aP => exact rfl); (case aB => exact HI6.out.2.2.2.2.2.2.1); (case aF => exact (fun _ hk => retag_ge hk)); (case aO => exact R_tag HR6.out 7); (case aS => exact HI6.out.2.2.2.2.2.2.1.size); (case aL => have := HN2.out.1; omega); intro v7 w7 ho hb hg hat; have n0_ := Aside0.mk (GP.other HI6.out hg (R_rowT HR6.out) hb (by omega)); have n1_ := Aside0.mk ho; have n2_ := Aside0.mk (HK6.out.otherT hg (R_rowT HR6.out) (by omega)); clear HI6 HR6 HK6 ho hb hg hat))
         go_roundg k2
         case measure => omega
         case rel => exact ⟨_, l' ++ [x], row ++ [(l'.length : Int)], c + 1, by go_num, ⟨by have := HCW.out; omega⟩, ⟨n0_.out, n1_.out⟩, ⟨by have h_ := H'.out; rwa [show (c : Int) + 1 = ((c + 1 : Nat) : Int) by omega] at h_⟩, ⟨by simp [HN2.out.1], by have := HN2.out.2; simp; omega⟩, n2_⟩
        ·rw [if_neg hl] at H
         cases H
      ·rw [if_neg hg] at H
       cases H
end Go.Proofs.YtbkcllfgolmloaaDoor.X

namespace Go.Proofs.YtbkcllfgolmloaaDoor.X
open Go Go.RowKit Go.Proofs.YtbkcllfgolmloaaDoorW.PrintWords Go.Proofs.YtbkcllfgolmloaaDoorW.PrintLast Go.Proofs.YtbkcllfgolmloaaDoorW.PrintMore
set_option linter.unusedVariables false
set_option linter.unusedSimpArgs false
/-- .. and a row of digits. -/
def MD (w W : World) (mb : Array Value) (gv : Nat) (own : Nat → Nat) (vg : Value) (lg : List Int) (vd : Value) (ds : List Int) : Prop :=
 MI w W mb gv own vg lg ∧ (Kd.int .i64).R 3 W w.heap.size (fun k => own k = 8) vd ds
section
variable {w W W1 : World} {mb : Array Value} {gv : Nat} {own : Nat → Nat} {vg : Value} {lg : List Int} {vd : Value} {ds : List Int}
theorem MD.below (h : MD w W mb gv own vg lg vd ds) (hb : Below W.heap.size W W1) : MD w W1 mb gv own vg lg vd ds := ⟨h.1.below hb, Kd.R_below h.2 hb⟩
theorem md_new (h : MI w W mb gv own vg lg) (hb : Below W.heap.size W W1) (hd : (Kd.int .i64).R 3 W1 W.heap.size (fun _ => True) vd ds) : MD w W1 mb gv (retag own W.heap.size 8) vg lg vd ds :=
 ⟨h.other (grown_of_below hb none) (fun k hk => by cases hk) (below_then h.2.2.2.2 h.2.2.2.2.size hb) (by omega), Kd.R_lower (Kd.R_mono (Kd.R_bound hd) (fun k hk => retag_ge hk.2.1)) h.2.2.2.2.size⟩
theorem MD.set {g n c : Nat} (h : MD w W mb gv own (.slice (some ⟨g, 0, none⟩) n c) lg vd ds) (i x : Int) : MD w (W.setCell ⟨g, i.toNat, none⟩ (.int .i64 x)) mb gv own (.slice (some ⟨g, 0, none⟩) n c) (lg.set i.toNat x) vd ds := by
 refine ⟨h.1.set i x, Kd.R_far (p := ⟨g, i.toNat, none⟩) h.2 (fun k hk e => ?_) _⟩
 have h7 := h.1.2.2.2.1
 obtain ⟨rfl, -, -⟩ := Kd.R_reads' h7
 have hg : own g = 1 := h7.1 g rfl
 have e' : k = g := e
 rw [e'] at hk
 omega
end
/-- Row c of the pads, digit by digit. -/
def padRow : List Int → Nat → Int → Int
 | [], _, x => x
 | d :: ds, t, x => padRow ds (t + 1) (if d = 2 then bits .or .i64 x (wrap64 (2 ^ t)) else x)
def padsL (k : Nat) (tapes : Int) : Nat → Nat → List Int → Option (List Int)
 | 0, _, l => some l
 | m + 1, c, l => (impl_digitsOf.f k tapes (c : Int)).bind fun ds => if ds.length ≤ 3 then padsL k tapes m (c + 1) (l.set c (padRow ds 0 (rd l (c : Int)))) else none
theorem mi_start2 {w W0 w4 : World} {mb : Array Value} {Ag : Option Addr} {cg n : Nat} (h1 : W0.heap[w.heap.size]? = some (.cells mb 74 (0, 0))) (h2 : W0.heap[w.heap.size + 1]? = some (.cells #[.int .i64 0, .int .i64 0, .slice none 0 0, .slice none 0 0] 74 (0, 0)))
  (ho : (Kd.int .i64).R 3 w4 w.heap.size (fun k => w.heap.size + 2 ≤ k) (.slice Ag (List.replicate (n : Int).toNat (0 : Int)).length cg) (List.replicate (n : Int).toNat 0))
  (hg : W0.grownBy w4 none) (hb : Below w.heap.size w w4) :
  ∃ own, MI w (w4.alloc (.cells #[.slice Ag n cg] 77)) mb w4.heap.size own (.slice Ag n cg) (List.replicate n 0) := by
 rw [List.length_replicate, Int.toNat_natCast] at ho
 have hsz : w.heap.size + 2 ≤ w4.heap.size := by have := hg.size; have := blk_lt h2; omega
 refine ⟨fun k => if k = w.heap.size then 4 else if k = w.heap.size + 1 then 6 else if k = w4.heap.size then 5 else 1, ⟨?_, by simp⟩, ⟨?_, by simp⟩, ⟨blk_new w4 _, by simp [show ¬ w4.heap.size = w.heap.size by omega, show ¬ w4.heap.size = w.heap.size + 1 by omega]⟩, ?_, hb.alloc (by omega) _⟩
 ·exact blk_alloc (blk_grown h1 hg (by simp)) _
 ·exact blk_alloc (blk_grown h2 hg (by simp)) _
 ·refine Kd.R_alloc (Kd.R_mono (Kd.R_bound ho) (fun k hk => ?_)) _
  have h1 := hk.1
  have h2 := hk.2.2.1
  show (if k = w.heap.size then 4 else if k = w.heap.size + 1 then 6 else if k = w4.heap.size then 5 else 1) = 1
  rw [if_neg (by omega), if_neg (by omega), if_neg (by omega)]
theorem tab_below {w W : World} (h : TabOK w) (hb : Below w.heap.size w W) : TabOK W := fun W' hW => h W' (below_then hb hb.size hW)
/-- The result's box is filled. -/
theorem fill_end {w W : World} {va vr : Value} {bs : List Bool} {rs : List (List Int)} {base : Nat} (hR : Kd.bool.R 4 W base (fun _ => True) va bs) (hS : Kd.S (Kd.slice 3 (Kd.int .i64)) 77 W base (fun _ => True) vr rs) (hbase : w.heap.size ≤ base) (hb : Below w.heap.size w W) {b : Nat} {cs : Array Value} (h : W.heap[b]? = some (.cells cs 74 (0, 0))) (hbb : w.heap.size ≤ b) (x y : Value) :
  Kd.bool.R 4 (set4 W b x y va vr) w.heap.size (fun _ => True) va bs ∧ Kd.S (Kd.slice 3 (Kd.int .i64)) 77 (set4 W b x y va vr) w.heap.size (fun _ => True) vr rs ∧ Below w.heap.size w (set4 W b x y va vr) :=
 ⟨R_set4 (Kd.R_lower hR hbase) h (by decide) _ _ _ _, S_set4 (Kd.S_lower hS hbase) h (by decide) _ _ _ _, below_set4 hb hbb _ _ _ _⟩
set_option maxHeartbeats 4000000 in
set_option maxRecDepth 100000 in
theorem tidy_calls {W f : Nat} {tapes start : Int} {ac : List Bool} {ns : List (List Int)} {kw kd : Nat} {pads : List Int} {bs : List Bool} {rs : List (List Int)} {as1 : List Bool} {rs1 : List (List Int)} (w : World) (htab : TabOK w) (Aa : Option Addr) (ca : Nat) (An : Option Addr) (cn : Nat) (hA : Kd.C Kd.bool w Aa ac.length ac) (hN : Kd.C (Kd.slice 3 (Kd.int .i64)) w An ns.length ns)
  (hw : impl_widthOf.f kw tapes = some (W : Int)) (hW : W ≤ 1000) (hp : padsL kd tapes W 0 (List.replicate W 0) = some pads) (hs : good2 (start, 0) = true) (h1 : growL good2 (accT ac) (nextT pads ns) W f [(start, 0)] [] [] = some (bs, rs))
  (hlen : bs.length ≤ 1048576) (hnl : rs.length = bs.length) (hrw : ∀ row ∈ rs, row.length ≤ 1000) (h : mergedF W f 0 bs rs = some (as1, rs1)) :
  Calls Tryd.prog 125 #[.agg #[.int .i64 tapes, .int .i64 start, .slice Aa ac.length ca, .slice An ns.length cn]] w (MergedPost w tapes as1 rs1) := by
 have HT := Aside0.mk htab
 have HA := Aside0.mk hA
 have HN := Aside0.mk hN
 have HW := Aside0.mk hw
 have HP := Aside0.mk hp
 have HSt := Aside0.mk hs
 have H1 := Aside0.mk h1
 have HL := Aside0.mk hlen
 have HNL := Aside0.mk hnl
 have HRW := Aside0.mk hrw
 have HH := Aside0.mk h
 clear htab hA hN hw hp hs h1 hlen hnl hrw h
 have c0 : (0 ≤ (W : Int)) = True := eq_true (by omega)
 go_enter Tryd.func125, Tryd.ntmps125
 go_wp2_with (first | (go_at_call 96; (with_reducible refine (impl_widthOf.calls kw tapes (W : Int) _ HW.out).mono ?_); rintro e w' ⟨rfl, ⟨nd, rfl⟩⟩) | ((with_reducible refine gate_dst (N := 12) rfl ?_); refine Kd.R_make (Kd.int .i64) (w0 := w) w.heap.size 3 rfl (N := 12) rfl 77 _ _ rfl (W : Int) rfl rfl Tryd.underlying77 (.int .i64 0) 8 info3 rfl (by decide) (by omega) 0 (ok := fun k => w.heap.size + 2 ≤ k) (okp := fun _ => False) rfl (fun _ hk => hk.elim) (by simp) (by omega) (by omega) (pw_below_drewN (((Below.refl w.heap.size w).alloc (Nat.le_refl _) _).alloc (by simp) _) nd) (by simp; omega) ?_; intro v24 w4 ho hb hg_ hnew_; obtain ⟨Ag, cg, hv⟩ := Kd.R_slice ho; subst hv; have HO := Aside0.mk ho; have HG := Aside0.mk hg_; have HB := Aside0.mk hb; clear hg_ hnew_ ho hb))
 obtain ⟨own, hI⟩ := mi_start2 (w := w) (n := W) (Ag := Ag) (cg := cg) (mb := #[.int .i64 tapes, .int .i64 start, .slice Aa ac.length ca, .slice An ns.length cn]) (blk_below (blk_alloc (blk_new w _) _) (pw_below_drewN (Below.refl _ _) nd)) (blk_below (by have h_ := blk_new (w.alloc (.cells #[.int .i64 tapes, .int .i64 start, .slice Aa ac.length ca, .slice An ns.length cn] 74)) (.cells #[.int .i64 0, .int .i64 0, .slice none 0 0, .slice none 0 0] 74); simpa using h_) (pw_below_drewN (Below.refl _ _) nd)) HO.out HG.out HB.out
 have HI := Aside0.mk hI
 clear hI HO HG HB
 generalize hgv : w4.heap.size = gv at HI ⊢
 generalize w4.alloc _ = W0 at HI ⊢
 clear hgv c0 w4
 go_loopg [15] W (fun kq v15 w' => ∃ (own : Nat → Nat) (c : Nat) (lg : List Int), v15 = .int .i64 (c : Int) ∧ Aside0 (c + kq = W) ∧ Aside0 (MI w w' #[.int .i64 tapes, .int .i64 start, .slice Aa ac.length ca, .slice An ns.length cn] gv own (.slice Ag W cg) lg) ∧ Aside0 (padsL kd tapes kq c lg = some pads) ∧ Aside0 (lg.length = W))
 case atStart => exact ⟨own, 0, List.replicate W 0, by simp, ⟨by omega⟩, HI, HP, ⟨by simp⟩⟩
 case round =>
  clear HI HP
  obtain ⟨own, c, lg, rfl, HK, HI, HP, HLg⟩ := hrel
  cases gk with
  | zero =>
   have hi : c = W := by have := HK.out; omega
   subst hi
   have c1 : decide ((c : Int) < (c : Int)) = false := decide_eq_false (by omega)
   have c2 : decide (c < c) = false := decide_eq_false (by omega)
   obtain rfl : lg = pads := Option.some.inj HP.out
   clear HP HK c1 c2
   have m0 : wr.cell? ⟨w.heap.size, 0, none⟩ = some (.int .i64 tapes) := (blk_cell HI.out.1.1 0).trans rfl
   have m1 : wr.cell? ⟨w.heap.size, 1, none⟩ = some (.int .i64 start) := (blk_cell HI.out.1.1 1).trans rfl
   have HMA := Aside0.mk (show MachAt wr w.heap.size tapes start ac ns from ⟨Aa, ca, An, cn, HI.out.1.1, Kd.C_below HA.out HI.out.2.2.2.2, Kd.C_below HN.out HI.out.2.2.2.2⟩)
   have HVP := Aside0.mk (show VarAt wr gv lg by obtain ⟨e_, _, hC⟩ := Kd.R_reads' HI.out.2.2.2.1; exact ⟨Ag, cg, by have h_ := HI.out.2.2.1.1; rw [e_] at h_; exact h_, hC⟩)
   have c1 : decide ((c : Int) < (c : Int)) = false := decide_eq_false (by omega)
   have c2 : decide (c < c) = false := decide_eq_false (by omega)
   go_wp2_with (first | (go_at_call 145; refine (grow_place_calls wr (tidy1_clo HMA.out) (tidy2_clo HMA.out HVP.out) HW.out hW HSt.out H1.out).mono ?_; rintro e w6 ⟨va, vr, rfl, hR, hS, hb⟩; obtain ⟨A6, c6, hv6⟩ := Kd.R_slice hR; subst hv6; obtain ⟨A7, c7, hv7⟩ := Kd.S_slice hS; subst hv7; have HR6 := Aside0.mk hR; have HS6 := Aside0.mk hS; have HI6 := Aside0.mk (HI.out.below hb); have HSZ := Aside0.mk (show wr.heap.size ≤ w6.heap.size from hb.size); clear hR hS hb))
   have hb7 : Below w6.heap.size w6 (w6.alloc (.cells #[.int .i64 tapes, .int .i64 0, .slice A6 bs.length c6, .slice A7 rs.length c7] 74)) := (Below.refl _ _).alloc (Nat.le_refl _) _
   have HI7 := Aside0.mk (HI6.out.below hb7)
   have HC6 := Aside0.mk (Kd.C_below (Kd.R_reads' HR6.out).2.2 hb7)
   have HC7 := Aside0.mk (Kd.C_below (Kd.S_reads' HS6.out).2.2 hb7)
   clear hb7 HR6 HS6 HI6
   generalize w6.alloc _ = w7 at HI7 HC6 HC7 ⊢
   refine (merged_calls w7 (tab_below HT.out HI7.out.2.2.2.2) A6 c6 A7 c7 HC6.out HC7.out HW.out hW HL.out HNL.out HRW.out HH.out).mono ?_
   rintro e w8 ⟨va, vr, rfl, hR, hS, hb⟩
   obtain ⟨A8, c8, hv8⟩ := Kd.R_slice hR
   subst hv8
   obtain ⟨A9, c9, hv9⟩ := Kd.S_slice hS
   subst hv9
   have b8 := blk_below HI7.out.2.1.1 hb
   have HE := Aside0.mk (fill_end (w := w) hR hS HI7.out.2.2.2.2.size (below_then HI7.out.2.2.2.2 HI7.out.2.2.2.2.size hb) b8 (by omega) (.int .i64 tapes) (.int .i64 0))
   have n0 : w8.cell? ⟨w.heap.size + 1, 0, none⟩ = some (.int .i64 0) := (blk_cell b8 0).trans rfl
   have n1 : w8.cell? ⟨w.heap.size + 1, 1, none⟩ = some (.int .i64 0) := (blk_cell b8 1).trans rfl
   have n2 : w8.cell? ⟨w.heap.size + 1, 2, none⟩ = some (.slice none 0 0) := (blk_cell b8 2).trans rfl
   have n3 : w8.cell? ⟨w.heap.size + 1, 3, none⟩ = some (.slice none 0 0) := (blk_cell b8 3).trans rfl
   have f0 := blk_frozen b8 0
   have f1 := blk_frozen b8 1
   have f2 := blk_frozen b8 2
   have f3 := blk_frozen b8 3
   clear hR hS hb b8 HI7
   go_wp2
   refine bodyPost_ret (v := .agg #[.int .i64 tapes, .int .i64 0, .slice A8 as1.length c8, .slice A9 rs1.length c9]) (by simp [results, Tryd.results125, go_sem, n0, n1, n2, n3]) rfl ⟨_, _, rfl, HE.out⟩
  | succ k1 =>
   have hi : c < W := by have := HK.out; omega
   have c1 : decide ((c : Int) < (W : Int)) = true := decide_eq_true (by omega)
   have c2 : decide (c < W) = true := decide_eq_true (by omega)
   obtain ⟨ds, hds, hP⟩ := Option.bind_eq_some_iff.mp HP.out
   have hdl : ds.length ≤ 3 := by
    by_cases e : ds.length ≤ 3
    ·exact e
    ·rw [if_neg e] at hP; cases hP
   rw [if_pos hdl] at hP
   have HDs := Aside0.mk hds
   have HDl := Aside0.mk hdl
   have HP1 := Aside0.mk hP
   have m0 : wr.cell? ⟨w.heap.size, 0, none⟩ = some (.int .i64 tapes) := (blk_cell HI.out.1.1 0).trans rfl
   clear hds hdl hP HP
   go_wp2_with (first | (go_at_call 124; (with_reducible refine (impl_digitsOf.calls kd tapes (c : Int) ds _ HDs.out).mono ?_); rintro e w5 ⟨vd, rfl, hR5, hb5⟩; obtain ⟨Ad, cd, hv5⟩ := Kd.R_slice hR5; subst hv5; have HD := Aside0.mk (md_new HI.out hb5 hR5); clear hR5 hb5))
   generalize hown_ : retag own wr.heap.size 8 = own1 at HD
   clear HI m0 c1 c2 hown_
   go_loopg [23] ds.length (fun kq v23 w' => ∃ (j : Nat) (lg1 : List Int), v23 = .int .i64 (j : Int) ∧ Aside0 (j + kq = ds.length) ∧ Aside0 (MD w w' #[.int .i64 tapes, .int .i64 start, .slice Aa ac.length ca, .slice An ns.length cn] gv own1 (.slice Ag W cg) lg1 (.slice Ad ds.length cd) ds) ∧ Aside0 (lg1.length = W ∧ lg1.set c (padRow (ds.drop j) j (rd lg1 (c : Int))) = lg.set c (padRow ds 0 (rd lg (c : Int)))))
   case atStart => exact ⟨0, lg, by simp, ⟨by omega⟩, HD, ⟨HLg.out, by simp⟩⟩
   case round =>
    clear HD
    obtain ⟨j, lg1, rfl, HKj, HD, HE⟩ := hrel
    cases gk with
    | zero =>
     have hj : j = ds.length := by have := HKj.out; omega
     subst hj
     have c1 : decide ((ds.length : Int) < (ds.length : Int)) = false := decide_eq_false (by omega)
     have c2 : decide (ds.length < ds.length) = false := decide_eq_false (by omega)
     have he := HE.out.2
     rw [List.drop_length, padRow] at he
     have hself : lg1.set c (rd lg1 (c : Int)) = lg1 := by
      have hcl : c < lg1.length := by have := HE.out.1; omega
      simp [rd, List.getD_eq_getElem?_getD, List.getElem?_eq_getElem hcl]
     rw [hself] at he
     have HEq := Aside0.mk he
     clear he hself
     go_wp2
     go_roundg k1
     case measure => omega
     case rel => exact ⟨own1, c + 1, lg1, by go_num, ⟨by have := HK.out; omega⟩, ⟨HD.out.1⟩, ⟨by rw [HEq.out]; exact HP1.out⟩, ⟨HE.out.1⟩⟩
    | succ k2 =>
     have hj : j < ds.length := by have := HKj.out; omega
     have c1 : decide ((j : Int) < (ds.length : Int)) = true := decide_eq_true (by omega)
     have c2 : decide (j < ds.length) = true := decide_eq_true (by omega)
     have hj2 : j < 3 := by have := HDl.out; omega
     obtain ⟨g, cg', hv, -, -⟩ := Kd.R_form HD.out.2 (by omega)
     simp only [Value.slice.injEq, true_and] at hv
     obtain ⟨hv1, hv2⟩ := hv
     subst hv1
     subst hv2
     obtain ⟨hx, -⟩ := Kd.R_cell (0 : Int) HD.out.2 (j : Int) (by omega) (by omega)
     obtain ⟨g2, cg2, hv, hc, hf⟩ := HD.out.1.get (c : Int) (by omega) (by have := HE.out.1; omega)
     simp only [Value.slice.injEq] at hv
     obtain ⟨hv1, -, hv2⟩ := hv
     subst hv1
     subst hv2
     simp only [Int.toNat_natCast] at hx hc hf
     have er : rdOf 0 ds (j : Int) = ds[j] := by simp [rdOf, List.getD_eq_getElem?_getD, List.getElem?_eq_getElem hj]
     rw [er] at hx
     have hE := HE.out.2
     rw [List.drop_eq_getElem_cons hj, padRow] at hE
     have HE2 := Aside0.mk hE
     have v0 : wr.cell? ⟨gv, 0, none⟩ = some (.slice (some ⟨g2, 0, none⟩) W cg) := (blk_cell HD.out.1.2.2.1.1 0).trans rfl
     have hcl : c < lg1.length := by have := HE.out.1; omega
     generalize ds[j] = d at hx HE2
     clear hE er
     by_cases hd : d = 2
     ·subst hd
      have HE3 := Aside0.mk (show lg1.set c (padRow (ds.drop (j + 1)) (j + 1) (bits .or .i64 (rd lg1 (c : Int)) (wrap64 (2 ^ j)))) = lg.set c (padRow ds 0 (rd lg (c : Int))) by have h_ := HE2.out; rwa [if_pos rfl] at h_)
      clear HE2
      go_wp2
      have HD3 := Aside0.mk (HD.out.below (below_drew (Below.refl _ _)))
      have hS : wr.drew.cell? ⟨gv, 0, none⟩ = some (.slice (some ⟨g2, 0, none⟩) W cg) ∧ wr.drew.cell? ⟨g2, c, none⟩ = some (.int .i64 (rd lg1 (c : Int))) ∧ True ∧ True := ⟨v0, hc, trivial, trivial⟩
      have hf' : wr.drew.frozen? ⟨g2, c, none⟩ = false := hf
      have q1 : (c < W) = True := eq_true (by omega)
      refine start_ (n := 9) (S := fun w' => w'.cell? ⟨gv, 0, none⟩ = some (.slice (some ⟨g2, 0, none⟩) W cg) ∧ w'.cell? ⟨g2, c, none⟩ = some (.int .i64 (rd lg1 (c : Int))) ∧ True ∧ True) (ds := [8]) #[false, false, false, false, false, false, false, false, false] (by kernel_rfl) rfl rfl hS (fun hHeld => ?_)
      generalize wr.drew = w3 at HD3 hS hf' hHeld ⊢
      refine take_ (i := 0) (N := some 30) (v := ?_) (a' := ?_) #[true, false, false, false, false, false, false, false, false] rfl rfl (by kernel_rfl) (fun _ _ _ h => h) (Or.inl ⟨by rfl, ?_⟩) hHeld ?_ ?_
      rotate_left
      ·rintro w' ⟨s0, s1, s2, s3⟩
       go_simp
       with_reducible rfl
      rotate_left
      ·simp only [Act.put, List.setIfInBounds_toArray, List.set_cons_zero, List.set_cons_succ]
       rfl
      refine pure_ (i := 1) (N := some 31) (v := ?_) (a' := ?_) #[true, true, false, false, false, false, false, false, false] rfl rfl (by kernel_rfl) (fun _ _ _ h => h) (Or.inl ⟨by rfl, ?_⟩) ?_ ?_
      rotate_left
      ·intro w'
       go_simp
       with_reducible rfl
      rotate_left
      ·simp only [Act.put, List.setIfInBounds_toArray, List.set_cons_zero, List.set_cons_succ]
       rfl
      refine pure_ (i := 2) (N := some 32) (v := ?_) (a' := ?_) #[true, true, true, false, false, false, false, false, false] rfl rfl (by kernel_rfl) (fun _ _ _ h => h) (Or.inl ⟨by rfl, ?_⟩) ?_ ?_
      rotate_left
      ·intro w'
       go_simp
       with_reducible rfl
      rotate_left
      ·simp only [Act.put, List.setIfInBounds_toArray, List.set_cons_zero, List.set_cons_succ]
       rfl
      refine take_ (i := 3) (N := some 33) (v := ?_) (a' := ?_) #[true, true, true, true, false, false, false, false, false] rfl rfl (by kernel_rfl) (fun _ _ _ h => h) (Or.inl ⟨by rfl, ?_⟩) hHeld ?_ ?_
      rotate_left
      ·rintro w' ⟨s0, s1, s2, s3⟩
       go_simp
       with_reducible rfl
      rotate_left
      ·simp only [Act.put, List.setIfInBounds_toArray, List.set_cons_zero, List.set_cons_succ]
       rfl
      refine pure_ (i := 4) (N := some 34) (v := ?_) (a' := ?_) #[true, true, true, true, true, false, false, false, false] rfl rfl (by kernel_rfl) (fun _ _ _ h => h) (Or.inl ⟨by rfl, ?_⟩) ?_ ?_
      rotate_left
      ·intro w'
       go_simp
       with_reducible rfl
      rotate_left
      ·simp only [Act.put, List.setIfInBounds_toArray, List.set_cons_zero, List.set_cons_succ]
       rfl
      refine pure_ (i := 5) (N := some 35) (v := ?_) (a' := ?_) #[true, true, true, true, true, true, false, false, false] rfl rfl (by kernel_rfl) (fun _ _ _ h => h) (Or.inl ⟨by rfl, ?_⟩) ?_ ?_
      rotate_left
      ·intro w'
       go_simp
       with_reducible rfl
      rotate_left
      ·simp only [Act.put, List.setIfInBounds_toArray, List.set_cons_zero, List.set_cons_succ]
       rfl
      refine pure_ (i := 6) (N := some 36) (v := ?_) (a' := ?_) #[true, true, true, true, true, true, true, false, false] rfl rfl (by kernel_rfl) (fun _ _ _ h => h) (Or.inl ⟨by rfl, ?_⟩) ?_ ?_
      rotate_left
      ·intro w'
       go_simp
       with_reducible rfl
      rotate_left
      ·simp only [Act.put, List.setIfInBounds_toArray, List.set_cons_zero, List.set_cons_succ]
       rfl
      refine pure_ (i := 7) (N := some 37) (v := ?_) (a' := ?_) #[true, true, true, true, true, true, true, true, false] rfl rfl (by kernel_rfl) (fun _ _ _ h => h) (Or.inl ⟨by rfl, ?_⟩) ?_ ?_
      rotate_left
      ·intro w'
       go_simp
       with_reducible rfl
      rotate_left
      ·simp only [Act.put, List.setIfInBounds_toArray, List.set_cons_zero, List.set_cons_succ]
       rfl
      refine last_ (i := 8) (N := none) #[true, true, true, true, true, true, true, true, true] rfl rfl (by kernel_rfl) (by decide) (fun K hK => ?_)
      obtain ⟨hS1, hS2, -, -⟩ := hHeld
      refine skip_ (w1 := w3.setCell ⟨g2, c, none⟩ (.int .i64 (bits .or .i64 (rd lg1 (c : Int)) (wrap64 (2 ^ j))))) (by rfl) rfl ?_ ?_
      ·(first | (go_simp; done) | (go_simp; simp only [i64_w]; done) | (go_simp; rw [i64_w]))
      refine hK.out _ _ ?_
      clear hK K
      refine done_ (by kernel_rfl) ?_
      clear hS hf' hS1 hS2 q1 hx hc hf
      go_wp2
      go_roundg k2
      case measure => omega
      case rel => exact ⟨j + 1, lg1.set c (bits .or .i64 (rd lg1 (c : Int)) (wrap64 (2 ^ j))), by go_num, ⟨by have := HKj.out; omega⟩, ⟨by have h_ := HD3.out.set (c : Int) (bits .or .i64 (rd lg1 (c : Int)) (wrap64 (2 ^ j))); simp only [Int.toNat_natCast] at h_; exact h_⟩, ⟨by simp [HE.out.1], by have h_ := HE3.out; have hrd : rd (lg1.set c (bits .or .i64 (rd lg1 (c : Int)) (wrap64 (2 ^ j)))) (c : Int) = bits .or .i64 (rd lg1 (c : Int)) (wrap64 (2 ^ j)) := by { simp [rd, List.getD_eq_getElem?_getD, hcl] }; rw [hrd, List.set_set]; exact h_⟩⟩
     ·have HE3 := Aside0.mk (show lg1.set c (padRow (ds.drop (j + 1)) (j + 1) (rd lg1 (c : Int))) = lg.set c (padRow ds 0 (rd lg (c : Int))) by have h_ := HE2.out; rwa [if_neg hd] at h_)
      clear HE2
      have hd1 : (d == 2) = false := by simpa using hd
      have hd2 : decide (d = 2) = false := by simpa using hd
      have HDn := Aside0.mk hd
      clear hd
      go_wp2
      go_roundg k2
      case measure => omega
      case rel => exact ⟨j + 1, lg1, by go_num, ⟨by have := HKj.out; omega⟩, HD, ⟨HE.out.1, HE3.out⟩⟩
end Go.Proofs.YtbkcllfgolmloaaDoor.X

-- Written by a program of this claim's author, out of the translation.
namespace Go.Proofs.YtbkcllfgolmloaaDoor.X
open Go.RowKit Go.Proofs.YtbkcllfgolmloaaDoorW.PrintWords Go.Proofs.YtbkcllfgolmloaaDoorW.PrintLast Go.Proofs.YtbkcllfgolmloaaDoorW.PrintMore
attribute [local go_sem] max2_int min2_int max_two min_two max_three min_three max_four min_four   -- for this text's walks alone
set_option linter.unusedVariables false
set_option linter.unusedSimpArgs false
def impl_machine_tidy.f (k : Nat) (a0_0 : Int) (a0_1 : Int) (l0_2 : List Bool) (l0_3 : List (List Int)) : Option (Int × Int × List Bool × (List (List Int))) :=
 (impl_widthOf.f k a0_0).bind fun W => if 0 ≤ W ∧ W ≤ 1000 ∧ good2 (a0_1, 0) = true then (padsL k a0_0 W.toNat 0 (List.replicate W.toNat 0)).bind fun pads =>
  (growL good2 (accT l0_2) (nextT pads l0_3) W.toNat k [(a0_1, 0)] [] []).bind fun p => if p.1.length ≤ 1048576 ∧ p.2.length = p.1.length ∧ (∀ row ∈ p.2, row.length ≤ 1000) then (mergedF W.toNat k 0 p.1 p.2).bind fun q => some (a0_0, 0, q.1, q.2) else none else none
theorem impl_machine_tidy.calls (k : Nat) (a0_0 : Int) (a0_1 : Int) (A0_2 : Option Addr) (c0_2 : Nat) (l0_2 : List Bool) (A0_3 : Option Addr) (c0_3 : Nat) (l0_3 : List (List Int)) (r1 : Int) (r2 : Int) (r3 : List Bool) (r4 : List (List Int)) (w : World) (htab : TabOK w) (hr0_2 : Kd.C Kd.bool w A0_2 l0_2.length l0_2) (hc0_2 : l0_2.length ≤ c0_2) (hr0_3 : Kd.C (Kd.slice 3 (Kd.int .i64)) w A0_3 l0_3.length l0_3) (hc0_3 : l0_3.length ≤ c0_3) (h : impl_machine_tidy.f k a0_0 a0_1 l0_2 l0_3 = some (r1, r2, r3, r4)) :
  Calls Tryd.prog 125 #[.agg #[.int .i64 a0_0, .int .i64 a0_1, .slice A0_2 l0_2.length c0_2, .slice A0_3 l0_3.length c0_3]] w fun e w' => ∃ v2_ v3_ : Value, e = .returned (.agg #[.int .i64 r1, .int .i64 r2, v2_, v3_]) ∧ Kd.R Kd.bool 4 w' w.heap.size (fun _ => True) v2_ r3 ∧ Kd.S (Kd.slice 3 (Kd.int .i64)) 77 w' w.heap.size (fun _ => True) v3_ r4 ∧ Below w.heap.size w w' := by
 unfold impl_machine_tidy.f at h
 obtain ⟨W, hW, h⟩ := Option.bind_eq_some_iff.mp h
 have hc : 0 ≤ W ∧ W ≤ 1000 ∧ good2 (a0_1, 0) = true := by
  by_cases e : 0 ≤ W ∧ W ≤ 1000 ∧ good2 (a0_1, 0) = true
  ·exact e
  ·rw [if_neg e] at h; cases h
 rw [if_pos hc] at h
 obtain ⟨w1, w2, hg⟩ := hc
 obtain ⟨pads, hp, h⟩ := Option.bind_eq_some_iff.mp h
 obtain ⟨⟨bs, rs⟩, h1, h⟩ := Option.bind_eq_some_iff.mp h
 have hc2 : bs.length ≤ 1048576 ∧ rs.length = bs.length ∧ (∀ row ∈ rs, row.length ≤ 1000) := by
  by_cases e : bs.length ≤ 1048576 ∧ rs.length = bs.length ∧ (∀ row ∈ rs, row.length ≤ 1000)
  ·exact e
  ·rw [if_neg e] at h; cases h
 rw [if_pos hc2] at h
 obtain ⟨q, hq, h⟩ := Option.bind_eq_some_iff.mp h
 simp only [Option.some.injEq, Prod.mk.injEq] at h
 obtain ⟨rfl, rfl, rfl, rfl⟩ := h
 obtain ⟨n, rfl⟩ : ∃ n : Nat, W = (n : Int) := ⟨W.toNat, by omega⟩
 simp only [Int.toNat_natCast] at hp h1 hq
 exact tidy_calls w htab A0_2 c0_2 A0_3 c0_3 hr0_2 hr0_3 hW (by omega) hp hg h1 hc2.1 hc2.2.1 hc2.2.2 hq
end Go.Proofs.YtbkcllfgolmloaaDoor.X

-- Written by a program of this claim's author, out of the translation.
namespace Go.Proofs.YtbkcllfgolmloaaDoor.X
open Go.RowKit Go.Proofs.YtbkcllfgolmloaaDoorW.PrintWords Go.Proofs.YtbkcllfgolmloaaDoorW.PrintLast Go.Proofs.YtbkcllfgolmloaaDoorW.PrintMore
attribute [local go_sem] max2_int min2_int max_two min_two max_three min_three max_four min_four   -- for this text's walks alone
set_option linter.unusedVariables false
set_option linter.unusedSimpArgs false
theorem equalIn_nil_bools (w : World) (d : Nat) (a : Option Addr) (l c : Nat) : (Op.equalIn (d + 1) 22 (.slice a l c) (.slice none 0 0)).run Tryd.prog w = .ok a.isNone w := by
 cases a <;> simp [Op.equalIn, run_underlying Tryd.underlying22]
theorem equal_nil_bools (w : World) (a : Option Addr) (l c : Nat) : (Op.equal 22 (.slice a l c) (.slice none 0 0)).run Tryd.prog w = .ok a.isNone w := equalIn_nil_bools w 9999 a l c
theorem eql_nil_bools (w : World) (a : Option Addr) (l c : Nat) : (binOp .eql 22 (.slice a l c) (.slice none 0 0)).run Tryd.prog w = .ok (.bool a.isNone) w := by
 simp [binOp, equal_nil_bools w a l c]
def slices_Clone_bool_bool.f (l0 : List Bool) : Option (List Bool) := if l0.length ≤ 1000000000 then some l0 else none
set_option maxHeartbeats 8000000 in
set_option maxRecDepth 100000 in
theorem slices_Clone_bool_bool.calls (A0 : Option Addr) (c0 : Nat) (l0 : List Bool) (r : List Bool) (w : World) (hr0 : Kd.C Kd.bool w A0 l0.length l0) (hc0 : l0.length ≤ c0) (h : slices_Clone_bool_bool.f l0 = some r) :
  Calls Tryd.prog 112 #[.slice A0 l0.length c0] w fun e w' => ∃ v0_ : Value, e = .returned (v0_) ∧ Kd.R Kd.bool 4 w' w.heap.size (fun _ => True) v0_ r ∧ Below w.heap.size w w' := by
 unfold slices_Clone_bool_bool.f at h
 by_cases hl : l0.length ≤ 1000000000
 ·rw [if_pos hl] at h
  obtain rfl := Option.some.inj h
  clear h
  have HR0 := Aside0.mk hr0
  have HB := Aside0.mk (Below.refl w.heap.size w)
  cases A0 with
  | none =>
   obtain rfl : l0 = [] := by
    cases l0 with
    | nil => rfl
    | cons x t =>
     obtain ⟨ad, e, _⟩ := hr0.2.2 (by simp)
     cases e
   clear hr0 hl hc0
   have hq := fun W' => eql_nil_bools W' none 0 c0
   simp only [Option.isNone_none] at hq
   go_enter Tryd.func112, Tryd.ntmps112
   go_wp2
   go_ret
   exact ⟨_, rfl, Kd.R_nil _ _ _ _ _, by repeat (first | exact HB.out | apply below_alloc | apply pw_below_drewN | apply below_drew1)⟩
  | some ad =>
   clear hr0 hc0
   have HL := Aside0.mk hl
   clear hl
   have hq := fun W' => eql_nil_bools W' (some ad) l0.length c0
   simp only [Option.isNone_some] at hq
   go_enter Tryd.func112, Tryd.ntmps112
   go_wp2_with (first | ((with_reducible refine gate_dst (N := 5) rfl ?_); refine Kd.R_lit Kd.bool _ 4 ?hg (N := 5) ?hd (xs := ([] : List Bool)) (inner := []) (ok := fun _ => True) (okp := fun _ => True) ?hr ?hp (fun _ hk => hk) trivial (Below.refl _ _) (Nat.le_refl _) (by simp) ?_; (case hd => rfl); (case hg => rfl); (case hr => first | (go_simp; done) | (go_simp; rfl)); (case hp => exact (Reps.none _ _)); intro v255 w2 ho3 hb hg_ hnew_; clear hg_ hnew_; have HO := Aside0.mk (Kd.R_lower ho3 (below_size (by repeat (first | exact HB.out | apply below_alloc | apply pw_below_drewN | apply below_drew1)))); have n1_ := Aside0.mk (below_step (by repeat (first | exact HB.out | apply below_alloc | apply pw_below_drewN | apply below_drew1)) hb); clear HB; have HB := n1_; clear n1_ hb ho3) | ((with_reducible refine gate_builtin (b := .append) (xs := #[.tmp 5, .tmp 6]) rfl ?_); at_builtin; refine Kd.R_append_rows Kd.bool (Rr := Kd.bool.K w2) (w0 := w) w.heap.size rfl (.tmp 5) (.tmp 6) 22 4 (.bool false) 1 rfl Tryd.underlying22 info4 rfl (by decide) (by omega) v255 [] l0 (some ad) l0.length c0 (fun _ => True) (fun k => ¬ (some k = v255.ownBlock)) rfl rfl ?aO ?aR ?aK ?aP (fun _ _ => trivial) ?aB ?aS ?aL ?_; (case aO => exact HO.out); (case aR => exact Kd.C_below HR0.out HB.out); (case aK => exact (fun x cs hk => hk)); (case aP => exact (fun k hk => ⟨trivial, hk⟩)); (case aB => exact HB.out); (case aS => exact HB.out.size); (case aL => have := HL.out; simp; omega); intro v7 w7 ho hb hg hat; have HO7 := Aside0.mk ho; clear HO; have HO := HO7; clear HO7; clear HB; have HB := Aside0.mk hb; clear hb hg hat ho))
   go_ret
   exact ⟨_, rfl, by simpa using HO.out, by repeat (first | exact HB.out | apply below_alloc | apply pw_below_drewN | apply below_drew1)⟩
 ·rw [if_neg hl] at h
  cases h
end Go.Proofs.YtbkcllfgolmloaaDoor.X

-- Written by a program of this claim's author, out of the translation.
namespace Go.Proofs.YtbkcllfgolmloaaDoor.X
open Go.RowKit Go.Proofs.YtbkcllfgolmloaaDoorW.PrintWords Go.Proofs.YtbkcllfgolmloaaDoorW.PrintLast Go.Proofs.YtbkcllfgolmloaaDoorW.PrintMore
attribute [local go_sem] max2_int min2_int max_two min_two max_three min_three max_four min_four   -- for this text's walks alone
set_option linter.unusedVariables false
set_option linter.unusedSimpArgs false
def impl_asLongs.l0 : Nat → List Int → List Int → Int → Int → Option (List Int)
 | 0, _, _, _, _ => none
 | k + 1, x3, x6, x7, x8 => if x8 < x7 then (if 0 ≤ x8 then (if x8 < (x6.length : Int) then (if x3.length < 17592186044416 then (impl_asLongs.l0 k (x3 ++ [rd x6 x8]) x6 x7 (wrap64 (x8 + 1))) else (none)) else (none)) else (none)) else (some x3)
def impl_asLongs.f (k : Nat) (l0 : List Int) : Option (List Int) := impl_asLongs.l0 k ([] : List Int) l0 (l0.length : Int) 0
set_option maxHeartbeats 8000000 in
set_option maxRecDepth 100000 in
theorem impl_asLongs.calls (k : Nat) (A0 : Option Addr) (c0 : Nat) (l0 : List Int) (r : List Int) (w : World) (hr0 : Kd.C (Kd.int .i64) w A0 l0.length l0) (hc0 : l0.length ≤ c0) (h : impl_asLongs.f k l0 = some r) :
  Calls Tryd.prog 149 #[.slice A0 l0.length c0] w fun e w' => ∃ v0_ : Value, e = .returned (v0_) ∧ Kd.R (Kd.int .i64) 2 w' w.heap.size (fun _ => True) v0_ r ∧ Below w.heap.size w w' := by
 have HR0 := Aside0.mk hr0
 have HC0 := Aside0.mk hc0
 clear hr0 hc0
 have HB := Aside0.mk (Below.refl w.heap.size w)
 have H : (impl_asLongs.l0 k ([] : List Int) l0 (l0.length : Int) 0) = some r := h
 clear h
 have H' := Aside0.mk H
 clear H
 go_enter Tryd.func149, Tryd.ntmps149
 go_wp2
 go_loopg [3, 8] k (fun kq v3 v8 w' => ∃ (x3_1 : List Int) (x8_1 : Int), v8 = .int .i64 x8_1 ∧ Aside0 (impl_asLongs.l0 kq x3_1 l0 (l0.length : Int) x8_1 = some r) ∧ Aside0 (kq ≤ k) ∧ Aside0 (Kd.R (Kd.int .i64) 2 w' w.heap.size (fun _ => True) v3 x3_1) ∧ Aside0 (Below w.heap.size w w'))
 case atStart => exact ⟨(([] : List Int)), (0), (by first | rfl | (simp; done) | (simp [*]; done)), H', ⟨Nat.le_refl _⟩, ⟨by first | exact Kd.R_nil _ _ _ _ _ | exact Kd.N_nil _ _ _ _ _ | exact Kd.V_nil _ _ _ _ _ | exact Kd.Q_nil _ _ _ _ _ | exact Kd.S_nil _ _ _ _ _⟩, ⟨by repeat (first | (with_reducible first | exact HB.out | apply below_alloc | apply pw_below_drewN | apply below_drew1) | exact HB.out)⟩⟩
 case round =>
  clear H'
  try clear c1
  obtain ⟨x3_1, x8_1, rfl, HA, HK1, HO_3, HB⟩ := hrel
  cases gk with
  | zero => exact absurd HA.out (by simp [impl_asLongs.l0])
  | succ k1 =>
   have H := HA.out
   clear HA
   simp only [impl_asLongs.l0] at H
   by_cases c2 : x8_1 < (l0.length : Int)
   ·rw [if_pos c2] at H
    have c2b0 : decide (x8_1 < (l0.length : Int)) = true := decide_eq_true c2
    clear c2
    by_cases c3 : 0 ≤ x8_1
    ·rw [if_pos c3] at H
     have c3b0 : decide (0 ≤ x8_1) = true := decide_eq_true c3
     clear c3
     by_cases c4 : x8_1 < (l0.length : Int)
     ·rw [if_pos c4] at H
      have c4b0 : decide (x8_1 < (l0.length : Int)) = true := decide_eq_true c4
      clear c4
      by_cases c5 : x3_1.length < 17592186044416
      ·rw [if_pos c5] at H
       have LMc5 := Aside0.mk c5
       clear c5
       obtain ⟨y418, hy418⟩ : ∃ y_ : List Int, y_ = (x3_1 ++ [rd l0 x8_1]) := ⟨_, rfl⟩
       replace H : (impl_asLongs.l0 k1 y418 l0 (l0.length : Int) (wrap64 (x8_1 + 1))) = some r := by first | (rw [hy418]; with_reducible exact H) | (have H2_ := (Option.bind_some _ _).symm.trans H; rw [hy418]; with_reducible exact H2_) | (have H2_ := (Option.bind_some _ _).symm.trans H; with_reducible exact H2_) | with_reducible exact H | (rw [hy418]; exact H) | exact H
       have Ny418 := Aside0.mk hy418
       clear hy418
       have H' := Aside0.mk H
       clear H
       have p417 : 0 ≤ (x8_1 : Int) := of_decide_eq_true (by first | (with_reducible assumption) | assumption)
       have q417 : x8_1 < (l0.length : Int) := of_decide_eq_true (by first | (with_reducible assumption) | assumption)
       obtain ⟨ad417, e417, hx417_0⟩ := Kd.at_int HR0.out x8_1 p417 q417
       cases e417
       replace hx417_0 := (HB.out.cell (World.block_lt_of_cell? w _ hx417_0)).trans hx417_0
       replace p417 := eq_true p417
       replace q417 := eq_true q417
       go_wp2_with (first | ((with_reducible refine gate_builtin (b := .append) (xs := #[.tmp 12, .tmp 14]) rfl ?_); at_builtin; refine Kd.R_append (Kd.int .i64) (w0 := w) w.heap.size rfl (.tmp 12) (.tmp 14) 55 2 (.int .i64 0) 8 rfl Tryd.underlying55 info2 rfl (by decide) (by omega) u3 x3_1 (rd l0 x8_1) [.int .i64 (rd l0 x8_1)] (fun _ => True) (fun _ => False) rfl rfl ?aP (fun _ hk => hk.elim) ?aF ?aO ?aB ?aS ?aL ?_; (case aP => exact rfl); (case aB => exact (by repeat (first | (with_reducible first | exact HB.out | apply below_alloc | apply pw_below_drewN | apply below_drew1) | exact HB.out))); (case aF => exact (fun _ _ => trivial)); (case aO => exact (by (with_reducible repeat (first | apply Kd.R_alloc | apply Kd.R_drewN | apply Kd.R_drew)); exact HO_3.out)); (case aS => exact (below_size (by repeat (first | (with_reducible first | exact HB.out | apply below_alloc | apply pw_below_drewN | apply below_drew1) | exact HB.out)))); (case aL => have := LMc5.out; omega); intro v419 w6 ho hb hg hat; rw [← Ny418.out] at ho; have n0_ := Aside0.mk (hb); have n1_ := Aside0.mk (ho); clear HB; clear HO_3; have HB := n0_; have HO420 := n1_; clear n0_ n1_; clear ho hb hg hat))
       go_roundg k1
       case measure => have := HK1.out; omega
       case rel => exact ⟨(y418), (wrap64 (x8_1 + 1)), (by first | rfl | (simp; done) | (simp [*]; done)), H', ⟨by have := HK1.out; omega⟩, ⟨by (with_reducible repeat (first | apply Kd.R_alloc | apply Kd.R_drewN | apply Kd.R_drew)); exact HO420.out⟩, ⟨by repeat (first | (with_reducible first | exact HB.out | apply below_alloc | apply pw_below_drewN | apply below_drew1) | exact HB.out)⟩⟩
      ·rw [if_neg c5] at H
       exact absurd H (by simp)
     ·rw [if_neg c4] at H
      exact absurd H (by simp)
    ·rw [if_neg c3] at H
     exact absurd H (by simp)
   ·rw [if_neg c2] at H
    have c2b0 : decide (x8_1 < (l0.length : Int)) = false := decide_eq_false c2
    clear c2
    obtain rfl := Option.some.inj H
    go_wp2
    go_ret
    exact ⟨_, by first | rfl | (simp [errW_none, errW_some] <;> rfl) | (simp [*, errW_none, errW_some] <;> rfl), by (with_reducible repeat (first | apply Kd.R_alloc | apply Kd.R_drewN | apply Kd.R_drew)); exact HO_3.out, by repeat (first | (with_reducible first | exact HB.out | apply below_alloc | apply pw_below_drewN | apply below_drew1) | exact HB.out)⟩
end Go.Proofs.YtbkcllfgolmloaaDoor.X

