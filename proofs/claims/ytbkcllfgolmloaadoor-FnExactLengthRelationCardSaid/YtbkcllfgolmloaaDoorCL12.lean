import Derived.Test.YtbkcllfgolmloaaDoorCL2
import Derived.Test.YtbkcllfgolmloaaDoorCL3
import Derived.Test.YtbkcllfgolmloaaDoorCL11
import Derived.Test.YtbkcllfgolmloaaDoorCL10
import Derived.Carry
import Derived.Outline
import Derived.Test.YtbkcllfgolmloaaDoorRows
import Derived.Test.YtbkcllfgolmloaaDoorCards
import Derived.Test.YtbkcllfgolmloaaDoorTie
import Derived.WalkKit
import Derived.ProofKit
import Derived.OpenShut
import Derived.ShutString
import Derived.ChangeOld
import Derived.Below
import Derived.SizedLaws
import Derived.ChangeVars
import Derived.JoinedOf
import Derived.JoinedAt
import Derived.LaidLaws
import Derived.SevenTiedAt
import Derived.Test.YtbkcllfgolmloaaDoorCL7
namespace Go.Proofs.YtbkcllfgolmloaaDoor.X
open Go Go.RowKit Go.Proofs.YtbkcllfgolmloaaDoorW.PrintWords Go.Proofs.YtbkcllfgolmloaaDoorW.PrintLast Go.Proofs.YtbkcllfgolmloaaDoorW.PrintMore
set_option linter.unusedVariables false
set_option linter.unusedSimpArgs false
open Classical in
noncomputable def laws_FnExactSuccessorRelation.f (k : Nat)  : Option Bool := (spec_SuccessorRelation.f k ).bind fun | (r0_0, r0_1, r0_2, r0_3) => if impl_SuccessorRelation.f k  = some (r0_0, r0_1, r0_2, r0_3) then (if laws_eqRelation.f k r0_0 r0_1 r0_2 r0_3 r0_0 r0_1 r0_2 r0_3 = some true then ((laws_markBoolS.f k r0_2 1).bind fun | (m4a, r0_2m) => (laws_markInt64SS.f k r0_3 m4a).bind fun | (m4, r0_3m) => if m4 < 0 then none else (if laws_heldRelation.f k r0_0 r0_1 r0_2m r0_3m 1 = some m4 then (some true) else none)) else none) else none
set_option maxHeartbeats 16000000 in
set_option maxRecDepth 100000 in
theorem laws_FnExactSuccessorRelation.main (k : Nat)  (w : World) (htab : TabOK w)  (r0_0 : Int) (r0_1 : Int) (r0_2 : List Bool) (r0_3 : List (List Int)) (m4a : Int) (r0_2m : List Bool) (m4 : Int) (r0_3m : List (List Int)) (hS : spec_SuccessorRelation.f k  = some (r0_0, r0_1, r0_2, r0_3)) (hI : impl_SuccessorRelation.f k  = some (r0_0, r0_1, r0_2, r0_3)) (her : laws_eqRelation.f k r0_0 r0_1 r0_2 r0_3 r0_0 r0_1 r0_2 r0_3 = some true) (hm4a : laws_markBoolS.f k r0_2 1 = some (m4a, r0_2m)) (hm4b : laws_markInt64SS.f k r0_3 m4a = some (m4, r0_3m)) (hn4 : ¬ m4 < 0) (hh : laws_heldRelation.f k r0_0 r0_1 r0_2m r0_3m 1 = some m4)  :
  Calls Tryd.prog 9 #[] w fun e w' => e = .returned (.bool true) ∧ Below w.heap.size w w' := by
 have HS := Aside0.mk hS
 have HI := Aside0.mk hI
 have HER := Aside0.mk her
 have HM4A := Aside0.mk hm4a
 have HM4B := Aside0.mk hm4b
 have HN4 := Aside0.mk hn4
 have HH := Aside0.mk hh
 have HT := Aside0.mk htab
 clear hS hI her hm4a hm4b hn4 hh htab
 have HB_w := Aside0.mk (Below.refl w.heap.size w)
 go_enter Tryd.func9, Tryd.ntmps9
 go_wp2_with (fail)
 with_reducible refine (spec_SuccessorRelation.calls k  r0_0 r0_1 r0_2 r0_3 _  HS.out).mono ?_
 rintro e w1 ⟨vy102, vy103, rfl, hy102, hy103, hb⟩
 obtain ⟨Ay102, cy102, hvy102⟩ := Kd.R_slice hy102
 subst hvy102
 obtain ⟨Ay103, cy103, hvy103⟩ := Kd.S_slice hy103
 subst hvy103
 have HZ_w1 := Aside0.mk (show w.heap.size + 0 ≤ w1.heap.size by have := hb.size; omega)
 have RIy10_w1 := Aside0.mk (RelOwn.mk_ (base := w.heap.size) HB_w.out.size hy102 hy103)
 have HB_w1 := Aside0.mk (below_then HB_w.out HB_w.out.size hb)
 clear HB_w
 clear hy102 hy103 hb
 go_upto_region 2 with (fail)
 have BX1_w2 := Aside0.mk (blk_new w1 (.cells #[.int .i64 r0_0, .int .i64 r0_1, .slice Ay102 r0_2.length cy102, .slice Ay103 r0_3.length cy103] 28))
 have hb := below_alloc (Below.refl w1.heap.size w1) (.cells #[.int .i64 r0_0, .int .i64 r0_1, .slice Ay102 r0_2.length cy102, .slice Ay103 r0_3.length cy103] 28)
 have HZ_w2 := Aside0.mk (show w1.heap.size + 1 ≤ (w1.alloc (.cells #[.int .i64 r0_0, .int .i64 r0_1, .slice Ay102 r0_2.length cy102, .slice Ay103 r0_3.length cy103] 28)).heap.size by simp)
 have HB_w2 := Aside0.mk (below_then HB_w1.out HB_w1.out.size hb)
 have RIy10_w2 := Aside0.mk (RIy10_w1.out.below hb)
 clear HB_w1 RIy10_w1
 clear hb
 generalize w1.alloc _ = w2 at *
 go_wp2_with (fail)
 with_reducible refine (impl_SuccessorRelation.calls k  r0_0 r0_1 r0_2 r0_3 _ (tab_below HT.out HB_w2.out)  HI.out).mono ?_
 rintro e w3 ⟨vy202, vy203, rfl, hy202, hy203, hb⟩
 obtain ⟨Ay202, cy202, hvy202⟩ := Kd.R_slice hy202
 subst hvy202
 obtain ⟨Ay203, cy203, hvy203⟩ := Kd.S_slice hy203
 subst hvy203
 have HZ_w3 := Aside0.mk (show w2.heap.size + 0 ≤ w3.heap.size by have := hb.size; omega)
 have RIy20_w3 := Aside0.mk (RelOwn.mk_ (base := w.heap.size) HB_w2.out.size hy202 hy203)
 have HB_w3 := Aside0.mk (below_then HB_w2.out HB_w2.out.size hb)
 have RIy10_w3 := Aside0.mk (RIy10_w2.out.below hb)
 have BX1_w3 := Aside0.mk (blk_below BX1_w2.out hb)
 clear HB_w2 RIy10_w2 BX1_w2
 clear hy202 hy203 hb
 go_upto_region 3 with (fail)
 have BX2_w4 := Aside0.mk (blk_new w3 (.cells #[.int .i64 r0_0, .int .i64 r0_1, .slice Ay202 r0_2.length cy202, .slice Ay203 r0_3.length cy203] 28))
 have hb := below_alloc (Below.refl w3.heap.size w3) (.cells #[.int .i64 r0_0, .int .i64 r0_1, .slice Ay202 r0_2.length cy202, .slice Ay203 r0_3.length cy203] 28)
 have HZ_w4 := Aside0.mk (show w3.heap.size + 1 ≤ (w3.alloc (.cells #[.int .i64 r0_0, .int .i64 r0_1, .slice Ay202 r0_2.length cy202, .slice Ay203 r0_3.length cy203] 28)).heap.size by simp)
 have HB_w4 := Aside0.mk (below_then HB_w3.out HB_w3.out.size hb)
 have RIy10_w4 := Aside0.mk (RIy10_w3.out.below hb)
 have BX1_w4 := Aside0.mk (blk_below BX1_w3.out hb)
 have RIy20_w4 := Aside0.mk (RIy20_w3.out.below hb)
 clear HB_w3 RIy10_w3 BX1_w3 RIy20_w3
 clear hb
 generalize w3.alloc _ = w4 at *
 have hx0_0 : w4.cell? ⟨w3.heap.size, 0, none⟩ = some (.int .i64 r0_0) := (blk_cell BX2_w4.out 0).trans rfl
 have hx0_1 : w4.cell? ⟨w3.heap.size, 1, none⟩ = some (.int .i64 r0_1) := (blk_cell BX2_w4.out 1).trans rfl
 have hx0_2 : w4.cell? ⟨w3.heap.size, 2, none⟩ = some (.slice Ay202 r0_2.length cy202) := (blk_cell BX2_w4.out 2).trans rfl
 have hx0_3 : w4.cell? ⟨w3.heap.size, 3, none⟩ = some (.slice Ay203 r0_3.length cy203) := (blk_cell BX2_w4.out 3).trans rfl
 have hx1_0 : w4.cell? ⟨w1.heap.size, 0, none⟩ = some (.int .i64 r0_0) := (blk_cell BX1_w4.out 0).trans rfl
 have hx1_1 : w4.cell? ⟨w1.heap.size, 1, none⟩ = some (.int .i64 r0_1) := (blk_cell BX1_w4.out 1).trans rfl
 have hx1_2 : w4.cell? ⟨w1.heap.size, 2, none⟩ = some (.slice Ay102 r0_2.length cy102) := (blk_cell BX1_w4.out 2).trans rfl
 have hx1_3 : w4.cell? ⟨w1.heap.size, 3, none⟩ = some (.slice Ay103 r0_3.length cy103) := (blk_cell BX1_w4.out 3).trans rfl
 go_wp2_with (fail)
 clear hx0_0 hx0_1 hx0_2 hx0_3 hx1_0 hx1_1 hx1_2 hx1_3
 with_reducible refine (laws_eqRelation.calls k r0_0 r0_1 _ _ r0_2 _ _ r0_3 r0_0 r0_1 _ _ r0_2 _ _ r0_3 true _ RIy20_w4.out.reads.1 RIy20_w4.out.reads.2.1 RIy20_w4.out.reads.2.2.1 RIy20_w4.out.reads.2.2.2 RIy10_w4.out.reads.1 RIy10_w4.out.reads.2.1 RIy10_w4.out.reads.2.2.1 RIy10_w4.out.reads.2.2.2 HER.out).mono ?_
 rintro e w5 ⟨rfl, hb⟩
 have HZ_w5 := Aside0.mk (show w4.heap.size + 0 ≤ w5.heap.size by have := hb.size; omega)
 have HB_w5 := Aside0.mk (below_then HB_w4.out HB_w4.out.size hb)
 have RIy10_w5 := Aside0.mk (RIy10_w4.out.below hb)
 have BX1_w5 := Aside0.mk (blk_below BX1_w4.out hb)
 have RIy20_w5 := Aside0.mk (RIy20_w4.out.below hb)
 have BX2_w5 := Aside0.mk (blk_below BX2_w4.out hb)
 clear HB_w4 RIy10_w4 BX1_w4 RIy20_w4 BX2_w4
 clear hb
 have hx0_0 : w5.cell? ⟨w3.heap.size, 0, none⟩ = some (.int .i64 r0_0) := (blk_cell BX2_w5.out 0).trans rfl
 have hx0_1 : w5.cell? ⟨w3.heap.size, 1, none⟩ = some (.int .i64 r0_1) := (blk_cell BX2_w5.out 1).trans rfl
 have hx0_2 : w5.cell? ⟨w3.heap.size, 2, none⟩ = some (.slice Ay202 r0_2.length cy202) := (blk_cell BX2_w5.out 2).trans rfl
 have hx0_3 : w5.cell? ⟨w3.heap.size, 3, none⟩ = some (.slice Ay203 r0_3.length cy203) := (blk_cell BX2_w5.out 3).trans rfl
 go_wp2_with (fail)
 clear hx0_0 hx0_1 hx0_2 hx0_3
 with_reducible refine (RelOwn.mark k _ _ _ _ r0_2 r0_3 1 m4a m4 r0_2m r0_3m w _ HB_w5.out RIy20_w5.out (by have := HZ_w1.out; have := HZ_w2.out; have := HZ_w3.out; have := HZ_w4.out; have := HZ_w5.out; omega) HM4A.out HM4B.out).mono ?_
 rintro e w6 ⟨rfl, hI_, hB_, hK_⟩
 have HZ_w6 := Aside0.mk (show w5.heap.size + 0 ≤ w6.heap.size by have := hK_.1; omega)
 have RIy10_w6 := Aside0.mk (RIy10_w5.out.kept hK_ (fun k_ h1_ h2_ => by have := (And.intro HZ_w1.out (And.intro HZ_w2.out (And.intro HZ_w3.out (And.intro HZ_w4.out (And.intro HZ_w5.out trivial))))); omega))
 have BX1_w6 := Aside0.mk ((hK_.2 _ (by have q_ := blk_lt BX1_w5.out; exact q_) (by have := (And.intro HZ_w1.out (And.intro HZ_w2.out (And.intro HZ_w3.out (And.intro HZ_w4.out (And.intro HZ_w5.out trivial))))); omega)).trans BX1_w5.out)
 have BX2_w6 := Aside0.mk ((hK_.2 _ (by have q_ := blk_lt BX2_w5.out; exact q_) (by have := (And.intro HZ_w1.out (And.intro HZ_w2.out (And.intro HZ_w3.out (And.intro HZ_w4.out (And.intro HZ_w5.out trivial))))); omega)).trans BX2_w5.out)
 clear RIy10_w5 BX1_w5 BX2_w5
 have HB_w6 := Aside0.mk hB_
 clear HB_w5 hB_
 have RIy20_w6 := Aside0.mk hI_
 clear hI_ hK_ RIy20_w5
 have hd4 : decide (m4 < 0) = false := decide_eq_false (by have q_ := HN4.out; omega)
 have hx0_0 : w6.cell? ⟨w3.heap.size, 0, none⟩ = some (.int .i64 r0_0) := (blk_cell BX2_w6.out 0).trans rfl
 have hx0_1 : w6.cell? ⟨w3.heap.size, 1, none⟩ = some (.int .i64 r0_1) := (blk_cell BX2_w6.out 1).trans rfl
 have hx0_2 : w6.cell? ⟨w3.heap.size, 2, none⟩ = some (.slice Ay202 r0_2.length cy202) := (blk_cell BX2_w6.out 2).trans rfl
 have hx0_3 : w6.cell? ⟨w3.heap.size, 3, none⟩ = some (.slice Ay203 r0_3.length cy203) := (blk_cell BX2_w6.out 3).trans rfl
 go_wp2_with (fail)
 clear hx0_0 hx0_1 hx0_2 hx0_3
 obtain ⟨e2_, e3_, q1_, q2_, q3_, q4_⟩ := RIy20_w6.out.reads'
 have hq_ := laws_heldRelation.calls k r0_0 r0_1 _ _ r0_2m _ _ r0_3m 1 m4 _ q1_ q2_ q3_ q4_ HH.out
 rw [← e2_, ← e3_] at hq_
 clear e2_ e3_ q1_ q2_ q3_ q4_
 with_reducible refine hq_.mono ?_
 clear hq_
 rintro e w7 ⟨rfl, hb⟩
 have HZ_w7 := Aside0.mk (show w6.heap.size + 0 ≤ w7.heap.size by have := hb.size; omega)
 have HB_w7 := Aside0.mk (below_then HB_w6.out HB_w6.out.size hb)
 have RIy10_w7 := Aside0.mk (RIy10_w6.out.below hb)
 have BX1_w7 := Aside0.mk (blk_below BX1_w6.out hb)
 have BX2_w7 := Aside0.mk (blk_below BX2_w6.out hb)
 have RIy20_w7 := Aside0.mk (RIy20_w6.out.below hb)
 clear HB_w6 RIy10_w6 BX1_w6 BX2_w6 RIy20_w6
 clear hb
 go_wp2_with (fail)
 with_reducible refine (impl_SuccessorRelation.calls k  r0_0 r0_1 r0_2 r0_3 _ (tab_below HT.out HB_w7.out)  HI.out).mono ?_
 rintro e w8 ⟨vy602, vy603, rfl, hy602, hy603, hb⟩
 obtain ⟨Ay602, cy602, hvy602⟩ := Kd.R_slice hy602
 subst hvy602
 obtain ⟨Ay603, cy603, hvy603⟩ := Kd.S_slice hy603
 subst hvy603
 have HZ_w8 := Aside0.mk (show w7.heap.size + 0 ≤ w8.heap.size by have := hb.size; omega)
 have RIy60_w8 := Aside0.mk (RelOwn.mk_ (base := w.heap.size) HB_w7.out.size hy602 hy603)
 have HB_w8 := Aside0.mk (below_then HB_w7.out HB_w7.out.size hb)
 have RIy10_w8 := Aside0.mk (RIy10_w7.out.below hb)
 have BX1_w8 := Aside0.mk (blk_below BX1_w7.out hb)
 have BX2_w8 := Aside0.mk (blk_below BX2_w7.out hb)
 have RIy20_w8 := Aside0.mk (RIy20_w7.out.below hb)
 clear HB_w7 RIy10_w7 BX1_w7 BX2_w7 RIy20_w7
 clear hy602 hy603 hb
 go_upto_region 14 with (fail)
 have BX5_w9 := Aside0.mk (blk_new w8 (.cells #[.int .i64 r0_0, .int .i64 r0_1, .slice Ay602 r0_2.length cy602, .slice Ay603 r0_3.length cy603] 28))
 have hb := below_alloc (Below.refl w8.heap.size w8) (.cells #[.int .i64 r0_0, .int .i64 r0_1, .slice Ay602 r0_2.length cy602, .slice Ay603 r0_3.length cy603] 28)
 have HZ_w9 := Aside0.mk (show w8.heap.size + 1 ≤ (w8.alloc (.cells #[.int .i64 r0_0, .int .i64 r0_1, .slice Ay602 r0_2.length cy602, .slice Ay603 r0_3.length cy603] 28)).heap.size by simp)
 have HB_w9 := Aside0.mk (below_then HB_w8.out HB_w8.out.size hb)
 have RIy10_w9 := Aside0.mk (RIy10_w8.out.below hb)
 have BX1_w9 := Aside0.mk (blk_below BX1_w8.out hb)
 have BX2_w9 := Aside0.mk (blk_below BX2_w8.out hb)
 have RIy20_w9 := Aside0.mk (RIy20_w8.out.below hb)
 have RIy60_w9 := Aside0.mk (RIy60_w8.out.below hb)
 clear HB_w8 RIy10_w8 BX1_w8 BX2_w8 RIy20_w8 RIy60_w8
 clear hb
 generalize w8.alloc _ = w9 at *
 have hx0_0 : w9.cell? ⟨w8.heap.size, 0, none⟩ = some (.int .i64 r0_0) := (blk_cell BX5_w9.out 0).trans rfl
 have hx0_1 : w9.cell? ⟨w8.heap.size, 1, none⟩ = some (.int .i64 r0_1) := (blk_cell BX5_w9.out 1).trans rfl
 have hx0_2 : w9.cell? ⟨w8.heap.size, 2, none⟩ = some (.slice Ay602 r0_2.length cy602) := (blk_cell BX5_w9.out 2).trans rfl
 have hx0_3 : w9.cell? ⟨w8.heap.size, 3, none⟩ = some (.slice Ay603 r0_3.length cy603) := (blk_cell BX5_w9.out 3).trans rfl
 have hx1_0 : w9.cell? ⟨w1.heap.size, 0, none⟩ = some (.int .i64 r0_0) := (blk_cell BX1_w9.out 0).trans rfl
 have hx1_1 : w9.cell? ⟨w1.heap.size, 1, none⟩ = some (.int .i64 r0_1) := (blk_cell BX1_w9.out 1).trans rfl
 have hx1_2 : w9.cell? ⟨w1.heap.size, 2, none⟩ = some (.slice Ay102 r0_2.length cy102) := (blk_cell BX1_w9.out 2).trans rfl
 have hx1_3 : w9.cell? ⟨w1.heap.size, 3, none⟩ = some (.slice Ay103 r0_3.length cy103) := (blk_cell BX1_w9.out 3).trans rfl
 go_wp2_with (fail)
 clear hx0_0 hx0_1 hx0_2 hx0_3 hx1_0 hx1_1 hx1_2 hx1_3
 with_reducible refine (laws_eqRelation.calls k r0_0 r0_1 _ _ r0_2 _ _ r0_3 r0_0 r0_1 _ _ r0_2 _ _ r0_3 true _ RIy60_w9.out.reads.1 RIy60_w9.out.reads.2.1 RIy60_w9.out.reads.2.2.1 RIy60_w9.out.reads.2.2.2 RIy10_w9.out.reads.1 RIy10_w9.out.reads.2.1 RIy10_w9.out.reads.2.2.1 RIy10_w9.out.reads.2.2.2 HER.out).mono ?_
 rintro e w10 ⟨rfl, hb⟩
 have HZ_w10 := Aside0.mk (show w9.heap.size + 0 ≤ w10.heap.size by have := hb.size; omega)
 have HB_w10 := Aside0.mk (below_then HB_w9.out HB_w9.out.size hb)
 have RIy10_w10 := Aside0.mk (RIy10_w9.out.below hb)
 have BX1_w10 := Aside0.mk (blk_below BX1_w9.out hb)
 have BX2_w10 := Aside0.mk (blk_below BX2_w9.out hb)
 have RIy20_w10 := Aside0.mk (RIy20_w9.out.below hb)
 have RIy60_w10 := Aside0.mk (RIy60_w9.out.below hb)
 have BX5_w10 := Aside0.mk (blk_below BX5_w9.out hb)
 clear HB_w9 RIy10_w9 BX1_w9 BX2_w9 RIy20_w9 RIy60_w9 BX5_w9
 clear hb
 have hx0_0 : w10.cell? ⟨w3.heap.size, 0, none⟩ = some (.int .i64 r0_0) := (blk_cell BX2_w10.out 0).trans rfl
 have hx0_1 : w10.cell? ⟨w3.heap.size, 1, none⟩ = some (.int .i64 r0_1) := (blk_cell BX2_w10.out 1).trans rfl
 have hx0_2 : w10.cell? ⟨w3.heap.size, 2, none⟩ = some (.slice Ay202 r0_2.length cy202) := (blk_cell BX2_w10.out 2).trans rfl
 have hx0_3 : w10.cell? ⟨w3.heap.size, 3, none⟩ = some (.slice Ay203 r0_3.length cy203) := (blk_cell BX2_w10.out 3).trans rfl
 go_wp2_with (fail)
 clear hx0_0 hx0_1 hx0_2 hx0_3
 obtain ⟨e2_, e3_, q1_, q2_, q3_, q4_⟩ := RIy20_w10.out.reads'
 have hq_ := laws_heldRelation.calls k r0_0 r0_1 _ _ r0_2m _ _ r0_3m 1 m4 _ q1_ q2_ q3_ q4_ HH.out
 rw [← e2_, ← e3_] at hq_
 clear e2_ e3_ q1_ q2_ q3_ q4_
 with_reducible refine hq_.mono ?_
 clear hq_
 rintro e w11 ⟨rfl, hb⟩
 have HZ_w11 := Aside0.mk (show w10.heap.size + 0 ≤ w11.heap.size by have := hb.size; omega)
 have HB_w11 := Aside0.mk (below_then HB_w10.out HB_w10.out.size hb)
 have RIy10_w11 := Aside0.mk (RIy10_w10.out.below hb)
 have BX1_w11 := Aside0.mk (blk_below BX1_w10.out hb)
 have BX2_w11 := Aside0.mk (blk_below BX2_w10.out hb)
 have RIy20_w11 := Aside0.mk (RIy20_w10.out.below hb)
 have RIy60_w11 := Aside0.mk (RIy60_w10.out.below hb)
 have BX5_w11 := Aside0.mk (blk_below BX5_w10.out hb)
 clear HB_w10 RIy10_w10 BX1_w10 BX2_w10 RIy20_w10 RIy60_w10 BX5_w10
 clear hb
 go_wp2
 go_ret
 exact ⟨rfl, HB_w11.out⟩
theorem laws_FnExactSuccessorRelation.calls (k : Nat)  (w : World) (htab : TabOK w)  (h : laws_FnExactSuccessorRelation.f k  = some true) :
  Calls Tryd.prog 9 #[] w fun e w' => e = .returned (.bool true) ∧ Below w.heap.size w w' := by
 unfold laws_FnExactSuccessorRelation.f at h
 obtain ⟨⟨r0_0, r0_1, r0_2, r0_3⟩, hS, h⟩ := Option.bind_eq_some_iff.mp h
 dsimp only at h
 by_cases hI : impl_SuccessorRelation.f k  = some (r0_0, r0_1, r0_2, r0_3)
 case neg => rw [if_neg hI] at h; cases h
 rw [if_pos hI] at h
 by_cases her : laws_eqRelation.f k r0_0 r0_1 r0_2 r0_3 r0_0 r0_1 r0_2 r0_3 = some true
 case neg => rw [if_neg her] at h; cases h
 rw [if_pos her] at h
 obtain ⟨⟨m4a, r0_2m⟩, hm4a, h⟩ := Option.bind_eq_some_iff.mp h
 dsimp only at h
 obtain ⟨⟨m4, r0_3m⟩, hm4b, h⟩ := Option.bind_eq_some_iff.mp h
 dsimp only at h
 by_cases hn4 : m4 < 0
 case pos => rw [if_pos hn4] at h; cases h
 rw [if_neg hn4] at h
 by_cases hh : laws_heldRelation.f k r0_0 r0_1 r0_2m r0_3m 1 = some m4
 case neg => rw [if_neg hh] at h; cases h
 rw [if_pos hh] at h
 exact laws_FnExactSuccessorRelation.main k  w htab  r0_0 r0_1 r0_2 r0_3 m4a r0_2m m4 r0_3m hS hI her hm4a hm4b hn4 hh 
end Go.Proofs.YtbkcllfgolmloaaDoor.X

namespace Go.Proofs.YtbkcllfgolmloaaDoor.Pure
open Go.RowKit Go.Proofs.YtbkcllfgolmloaaDoor.X Go.Proofs.YtbkcllfgolmloaaDoorW.PrintWords Go.Proofs.YtbkcllfgolmloaaDoorW.PrintLast
set_option linter.unusedVariables false
set_option linter.unusedSimpArgs false
def relSuccessorRelation : Int × Int × List Bool × List (List Int) := (impl_SuccessorRelation.f 3000).getD (0, 0, [], [])
set_option maxRecDepth 100000 in
theorem lawSuccessorRelation : laws_FnExactSuccessorRelation.f 3000 = some true := by
 have hI : impl_SuccessorRelation.f 3000 = some (relSuccessorRelation.1, relSuccessorRelation.2.1, relSuccessorRelation.2.2.1, relSuccessorRelation.2.2.2) := by decide +kernel
 have hS : spec_SuccessorRelation.f 3000 = some (relSuccessorRelation.1, relSuccessorRelation.2.1, relSuccessorRelation.2.2.1, relSuccessorRelation.2.2.2) := by decide +kernel
 have hE : laws_eqRelation.f 3000 relSuccessorRelation.1 relSuccessorRelation.2.1 relSuccessorRelation.2.2.1 relSuccessorRelation.2.2.2 relSuccessorRelation.1 relSuccessorRelation.2.1 relSuccessorRelation.2.2.1 relSuccessorRelation.2.2.2 = some true := by decide +kernel
 have h1 : laws_markBoolS.f 3000 relSuccessorRelation.2.2.1 1 = some (((1 + relSuccessorRelation.2.2.1.length : Nat) : Int), mB 1 relSuccessorRelation.2.2.1.length) := by decide +kernel
 have h2 : laws_markInt64SS.f 3000 relSuccessorRelation.2.2.2 ((1 + relSuccessorRelation.2.2.1.length : Nat) : Int) = some (((1 + relSuccessorRelation.2.2.1.length + sumL relSuccessorRelation.2.2.2 : Nat) : Int), mII (1 + relSuccessorRelation.2.2.1.length) relSuccessorRelation.2.2.2) := by decide +kernel
 have h3 : laws_heldRelation.f 3000 relSuccessorRelation.1 relSuccessorRelation.2.1 (mB 1 relSuccessorRelation.2.2.1.length) (mII (1 + relSuccessorRelation.2.2.1.length) relSuccessorRelation.2.2.2) 1 = some ((1 + relSuccessorRelation.2.2.1.length + sumL relSuccessorRelation.2.2.2 : Nat) : Int) := by decide +kernel
 unfold laws_FnExactSuccessorRelation.f
 rw [hS]
 simp only [Option.bind_some]
 rw [if_pos hI, if_pos hE, h1]
 simp only [Option.bind_some]
 rw [h2]
 simp only [Option.bind_some]
 rw [if_neg (by omega), if_pos h3]
theorem FnExactSuccessorRelation : ∃ k, laws_FnExactSuccessorRelation.f k = some true := ⟨_, lawSuccessorRelation⟩
end Go.Proofs.YtbkcllfgolmloaaDoor.Pure

-- Written by a program of this claim's author.
namespace Go.Proofs.YtbkcllfgolmloaaDoor.fnExactSuccessorRelation
open Go.ChangeShapes Go.WideShapes Go.ChangeAt Go.RowKit
open Go.ChangeMaps (open_string shut_string)
set_option linter.unusedVariables false
theorem own : ownKnob Tryd.prog.godebug = none := by kernel_rfl
set_option maxRecDepth 100000 in
theorem lifted (os : Os) (started : os.Started) (H : Type) (enc : TypeId × Value → H) :
  ReturnsInHanded {} Tryd.checked os 9 .any (fun w args => (Rows.fnExactSuccessorRelationSpec.pre enc Tryd.prog Tryd.f9 Rows.fnExactSuccessorRelationRow.domain false w args ∧ laidMet Tryd.prog X.laid3 w) ∧ sizedMet enc Tryd.prog Tryd.f9 (OpenSpec.ofChange Rows.fnExactSuccessorRelationSpec) false w args) (Rows.fnExactSuccessorRelationSpec.post enc Tryd.prog Tryd.f9 false true false false) := by
 refine returnsInHanded_of_change_and (C := Tryd.checked) (X := fun w _ => laidMet Tryd.prog X.laid3 w) (fun _ _ _ hh h => h.of_heap hh) own started (by kernel_rfl) Tryd.func9
  (ChangeSpec.witness_at (enc := enc) (C := Tryd.checked) (os := os) (X := fun w _ => laidMet Tryd.prog X.laid3 w) false (X.laidWorld os) #[] 8 rfl (by kernel_rfl) (by kernel_rfl) (by kernel_rfl) (by kernel_rfl) (by kernel_rfl) (X.laidWorld_met os _)) ?_
 intro W base args ds gs before hval0 hW _ hsz0 hL _
 have hval : ∀ (j : Nat) t v, Tryd.f9.params[j]? = some t → args[j]? = some v → Value.okWide Tryd.prog W .any base t v := hval0
 have hW' := hW
 obtain ⟨p, q, hA0, hV, rfl, hfz, hnd⟩ := hW
 have hA : DataW.TrodAll enc Tryd.prog W 0 (fun _ => true) true Tryd.f9.params.toList args.toList ds p := hA0
 rw [Tryd.params9] at hA hval
 obtain ⟨rfl, rfl, rfl⟩ := trodAll_none hA
 obtain ⟨rfl, rfl⟩ := trodVars_none hV
 clear hA0 hval0 hsz0
 obtain ⟨n_, hn_⟩ := Pure.FnExactSuccessorRelation  
 refine (X.laws_FnExactSuccessorRelation.calls n_  W (X.tabOK_of hL)  hn_).mono fun e W' ⟨he, bel⟩ => ?_
 subst he
 exact ⟨_, rfl, _, _, _, [], _, [], hW', trodAll_mk1 (shut_bool Tryd.underlying4 _), trodAll_mk0, rfl, bel.frame _, fun h => by cases h⟩
theorem over : Rows.fnExactSuccessorRelationRow.holds Tryd.pinned (OpenSpec.ofChange Rows.fnExactSuccessorRelationSpec) :=
 OpenClaim.holds_of_wide 9 Tryd.f9 rfl rfl rfl rfl rfl rfl rfl ⟨rfl, rfl, rfl, rfl, rfl⟩ rfl rfl rfl rfl rfl (by kernel_rfl) Tryd.func9 (by kernel_rfl)
  (of_decide_eq_true (by kernel_rfl)) (by unfold Func.isWrapper; first | (rw [if_pos (by decide +kernel)]; kernel_rfl) | (rw [if_neg (by decide +kernel)]; exact ⟨rfl, rfl⟩))
  (fun os started H enc _ => lifted os started H enc)
set_option maxRecDepth 100000 in
theorem proved : Rows.FnExactSuccessorRelationCardSaid :=
 Claim7.holds_tied_plain_at .later [] Rows.fnExactSuccessorRelationCard.laidKinds true (true, "f51c4824e2bc35f367135000083f29c5ec74c549effb7d54f23c468ffd466c0d") false
  over (fun _ h => by cases h) (by kernel_rfl) (fun _ h => by cases h) fnExactSuccessorRelation_row_tie rfl ⟨rfl, rfl⟩ (by kernel_rfl) rfl
  (fun f fn hf hfn => by
   obtain rfl : f = 9 := Option.some.inj ((show Tryd.prog.funcNamed "loop.example/g01168/laws.FnExactSuccessorRelation" = some 9 by kernel_rfl).symm.trans hf) |>.symm
   obtain rfl : fn = Tryd.f9 := (Option.some.inj (Tryd.func9.symm.trans hfn)).symm
   refine ⟨by kernel_rfl, fun j t ht => ?_⟩
   have hall : (Tryd.f9.params.toList.all fun t => !Tryd.prog.wantsStandIn t) = true := by kernel_rfl
   have := List.all_eq_true.1 hall t (Array.mem_def.1 (Array.mem_of_getElem? ht))
   exact (show Tryd.prog.wantsStandIn t = false by simpa using this))
  (by kernel_rfl)
#print axioms proved
end Go.Proofs.YtbkcllfgolmloaaDoor.fnExactSuccessorRelation
namespace Go.Proofs.YtbkcllfgolmloaaDoor
/-- The row, under a short name, for the claim. -/
theorem fnExactSuccessorRelation_holds : Rows.FnExactSuccessorRelationCardSaid := fnExactSuccessorRelation.proved
end Go.Proofs.YtbkcllfgolmloaaDoor

-- Written by a program of this claim's author, out of the translation.
namespace Go.Proofs.YtbkcllfgolmloaaDoor.X
open Go.RowKit Go.Proofs.YtbkcllfgolmloaaDoorW.PrintWords Go.Proofs.YtbkcllfgolmloaaDoorW.PrintLast Go.Proofs.YtbkcllfgolmloaaDoorW.PrintMore
attribute [local go_sem] max2_int min2_int max_two min_two max_three min_three max_four min_four   -- for this text's walks alone
set_option linter.unusedVariables false
set_option linter.unusedSimpArgs false
theorem C_intsL {W : World} {g T : Nat} {l : List Int} (hb : W.heap[g]? = some (.cells (l.map (Value.int .i64)).toArray T (0, 0))) (hl : l.length ≤ 1000) : (Kd.int .i64).C W (some ⟨g, 0, none⟩) l.length l := by
 refine ⟨rfl, by omega, fun _ => ⟨_, rfl, fun j p hj => ⟨[.int .i64 p], rfl, rfl, fun i u hu => ?_⟩⟩⟩
 have hi : i = 0 := by have := (List.getElem?_eq_some_iff.1 hu).1; simp at this; omega
 subst hi
 have hu' : Value.int .i64 p = u := by simpa using hu
 subst hu'
 have h1 := blk_cell hb j
 rw [show (Addr.add ⟨g, 0, none⟩ (j * (Kd.int .i64).sz + 0)) = ⟨g, j, none⟩ by simp [Addr.add, show (Kd.int .i64).sz = 1 from rfl]; omega]
 rw [h1]
 simp [hj]
theorem C_boolsL {W : World} {g T : Nat} {l : List Bool} (hb : W.heap[g]? = some (.cells (l.map Value.bool).toArray T (0, 0))) (hl : l.length ≤ 1000) : Kd.bool.C W (some ⟨g, 0, none⟩) l.length l := by
 refine ⟨rfl, by omega, fun _ => ⟨_, rfl, fun j p hj => ⟨[.bool p], rfl, rfl, fun i u hu => ?_⟩⟩⟩
 have hi : i = 0 := by have := (List.getElem?_eq_some_iff.1 hu).1; simp at this; omega
 subst hi
 have hu' : Value.bool p = u := by simpa using hu
 subst hu'
 have h1 := blk_cell hb j
 rw [show (Addr.add ⟨g, 0, none⟩ (j * Kd.bool.sz + 0)) = ⟨g, j, none⟩ by simp [Addr.add, show Kd.bool.sz = 1 from rfl]; omega]
 rw [h1]
 simp [hj]
theorem C_rowsL {W : World} {g T : Nat} {ps : List (Nat × List Int)} (hb : W.heap[g]? = some (.cells (ps.map fun p => Value.slice (some ⟨p.1, 0, none⟩) p.2.length p.2.length).toArray T (0, 0))) (hl : ps.length ≤ 1000) (hC : ∀ p ∈ ps, (Kd.int .i64).C W (some ⟨p.1, 0, none⟩) p.2.length p.2) :
  (Kd.slice 2 (Kd.int .i64)).C W (some ⟨g, 0, none⟩) (ps.map Prod.snd).length (ps.map Prod.snd) := by
 refine ⟨rfl, by simp; omega, fun _ => ⟨_, rfl, fun j p hj => ?_⟩⟩
 rw [List.getElem?_map] at hj
 cases e : ps[j]? with
 | none => rw [e] at hj; cases hj
 | some q =>
  rw [e] at hj
  obtain rfl := Option.some.inj hj
  refine ⟨[.slice (some ⟨q.1, 0, none⟩) q.2.length q.2.length], rfl, ⟨_, _, rfl, Nat.le_refl _, hC q (List.mem_of_getElem? e)⟩, fun i u hu => ?_⟩
  have hi : i = 0 := by have := (List.getElem?_eq_some_iff.1 hu).1; simp at this; omega
  subst hi
  have hu' : Value.slice (some ⟨q.1, 0, none⟩) q.2.length q.2.length = u := by simpa using hu
  subst hu'
  have h1 := blk_cell hb j
  rw [show (Addr.add ⟨g, 0, none⟩ (j * (Kd.slice 2 (Kd.int .i64)).sz + 0)) = ⟨g, j, none⟩ by simp [Addr.add, show (Kd.slice 2 (Kd.int .i64)).sz = 1 from rfl]; omega]
  rw [h1]
  simp [e]
theorem fill_endRL {w W : World} {va vr : Value} {bs : List Bool} {rs : List (List Int)} {base : Nat} (hR : Kd.bool.R 4 W base (fun _ => True) va bs) (hS : Kd.S (Kd.slice 2 (Kd.int .i64)) 55 W base (fun _ => True) vr rs) (hbase : w.heap.size ≤ base) (hb : Below w.heap.size w W) {b : Nat} {cs : Array Value} (h : W.heap[b]? = some (.cells cs 28 (0, 0))) (hbb : w.heap.size ≤ b) (x y : Value) :
  Kd.bool.R 4 (set4 W b x y va vr) w.heap.size (fun _ => True) va bs ∧ Kd.S (Kd.slice 2 (Kd.int .i64)) 55 (set4 W b x y va vr) w.heap.size (fun _ => True) vr rs ∧ Below w.heap.size w (set4 W b x y va vr) :=
 ⟨R_set4 (Kd.R_lower hR hbase) h (by decide) _ _ _ _, S_set4 (Kd.S_lower hS hbase) h (by decide) _ _ _ _, below_set4 hb hbb _ _ _ _⟩
def spec_LengthRelation.f (k : Nat) (a0 : Int) : Option (Int × Int × List Bool × List (List Int) × Int) := if 1 ≤ a0 ∧ a0 ≤ 3 then (spec_l02Known.f k [a0 != 2, a0 != 1] [[0, 0, 0], [0, 1, 0], [0, 3, 0], [0, 4, 0], [0, 2, 1], [0, 5, 1], [1, 2, 1], [1, 5, 1]]).bind fun r => some (r.1, r.2.1, r.2.2.1, r.2.2.2, 0) else some (0, 0, [], [], 2)
set_option maxHeartbeats 8000000 in
set_option maxRecDepth 100000 in
theorem lengthRel1 (k : Nat) (r1 : Int) (r2 : Int) (r3 : List Bool) (r4 : List (List Int)) (w : World) (h : spec_l02Known.f k [true, false] [[0, 0, 0], [0, 1, 0], [0, 3, 0], [0, 4, 0], [0, 2, 1], [0, 5, 1], [1, 2, 1], [1, 5, 1]] = some (r1, r2, r3, r4)) :
  Calls Tryd.prog 36 #[.int .i64 1] w fun e w' => ∃ v2_ v3_ : Value, e = .returned (.tuple #[.agg #[.int .i64 r1, .int .i64 r2, v2_, v3_], .int .i64 0]) ∧ Kd.R Kd.bool 4 w' w.heap.size (fun _ => True) v2_ r3 ∧ Kd.S (Kd.slice 2 (Kd.int .i64)) 55 w' w.heap.size (fun _ => True) v3_ r4 ∧ Below w.heap.size w w' := by
 have H := Aside0.mk h
 clear h
 have hwi := Aside0.mk (show spec_l00In.f 1 1 3 = some true by decide)
 have HB0 := Aside0.mk (below_alloc (Below.refl w.heap.size w) (.cells #[.int .i64 0, .int .i64 0, .slice none 0 0, .slice none 0 0] 28))
 have HBR := Aside0.mk (blk_new w (.cells #[.int .i64 0, .int .i64 0, .slice none 0 0, .slice none 0 0] 28))
 go_enter Tryd.func36, Tryd.ntmps36
 go_wp2_with (fail)
 generalize w.alloc _ = w1 at *
 with_reducible refine (spec_l00In.calls 1 1 3 true _ hwi.out).mono ?_
 rintro e w0 ⟨rfl, hd⟩
 have hb := hd.below
 have HB0' := Aside0.mk (below_then HB0.out HB0.out.size hb)
 have HBR' := Aside0.mk (blk_below HBR.out hb)
 clear HB0 HBR hd hb
 obtain ⟨W, hW⟩ : ∃ W, W = ((((((((((w0.alloc (.cells #[.bool true, .bool false] 4)).alloc (.cells #[.int .i64 0, .int .i64 0, .int .i64 0] 2)).alloc (.cells #[.int .i64 0, .int .i64 1, .int .i64 0] 2)).alloc (.cells #[.int .i64 0, .int .i64 3, .int .i64 0] 2)).alloc (.cells #[.int .i64 0, .int .i64 4, .int .i64 0] 2)).alloc (.cells #[.int .i64 0, .int .i64 2, .int .i64 1] 2)).alloc (.cells #[.int .i64 0, .int .i64 5, .int .i64 1] 2)).alloc (.cells #[.int .i64 1, .int .i64 2, .int .i64 1] 2)).alloc (.cells #[.int .i64 1, .int .i64 5, .int .i64 1] 2)).alloc (.cells #[.slice (some ⟨w0.heap.size + 1, 0, none⟩) 3 3, .slice (some ⟨w0.heap.size + 1 + 1, 0, none⟩) 3 3, .slice (some ⟨w0.heap.size + 1 + 1 + 1, 0, none⟩) 3 3, .slice (some ⟨w0.heap.size + 1 + 1 + 1 + 1, 0, none⟩) 3 3, .slice (some ⟨w0.heap.size + 1 + 1 + 1 + 1 + 1, 0, none⟩) 3 3, .slice (some ⟨w0.heap.size + 1 + 1 + 1 + 1 + 1 + 1, 0, none⟩) 3 3, .slice (some ⟨w0.heap.size + 1 + 1 + 1 + 1 + 1 + 1 + 1, 0, none⟩) 3 3, .slice (some ⟨w0.heap.size + 1 + 1 + 1 + 1 + 1 + 1 + 1 + 1, 0, none⟩) 3 3] 55)) := ⟨_, rfl⟩
 have HBW := Aside0.mk (show Below w0.heap.size w0 W by rw [hW]; exact below_alloc (below_alloc (below_alloc (below_alloc (below_alloc (below_alloc (below_alloc (below_alloc (below_alloc (below_alloc (Below.refl _ _) _) _) _) _) _) _) _) _) _) _)
 have b0 : W.heap[w0.heap.size]? = some (.cells #[.bool true, .bool false] 4 (0, 0)) := by rw [hW]; have q_ := blk_alloc (blk_alloc (blk_alloc (blk_alloc (blk_alloc (blk_alloc (blk_alloc (blk_alloc (blk_alloc (blk_new w0 (.cells #[.bool true, .bool false] 4)) (.cells #[.int .i64 0, .int .i64 0, .int .i64 0] 2)) (.cells #[.int .i64 0, .int .i64 1, .int .i64 0] 2)) (.cells #[.int .i64 0, .int .i64 3, .int .i64 0] 2)) (.cells #[.int .i64 0, .int .i64 4, .int .i64 0] 2)) (.cells #[.int .i64 0, .int .i64 2, .int .i64 1] 2)) (.cells #[.int .i64 0, .int .i64 5, .int .i64 1] 2)) (.cells #[.int .i64 1, .int .i64 2, .int .i64 1] 2)) (.cells #[.int .i64 1, .int .i64 5, .int .i64 1] 2)) (.cells #[.slice (some ⟨w0.heap.size + 1, 0, none⟩) 3 3, .slice (some ⟨w0.heap.size + 1 + 1, 0, none⟩) 3 3, .slice (some ⟨w0.heap.size + 1 + 1 + 1, 0, none⟩) 3 3, .slice (some ⟨w0.heap.size + 1 + 1 + 1 + 1, 0, none⟩) 3 3, .slice (some ⟨w0.heap.size + 1 + 1 + 1 + 1 + 1, 0, none⟩) 3 3, .slice (some ⟨w0.heap.size + 1 + 1 + 1 + 1 + 1 + 1, 0, none⟩) 3 3, .slice (some ⟨w0.heap.size + 1 + 1 + 1 + 1 + 1 + 1 + 1, 0, none⟩) 3 3, .slice (some ⟨w0.heap.size + 1 + 1 + 1 + 1 + 1 + 1 + 1 + 1, 0, none⟩) 3 3] 55); simpa using q_
 have b1 : W.heap[w0.heap.size + 1]? = some (.cells #[.int .i64 0, .int .i64 0, .int .i64 0] 2 (0, 0)) := by rw [hW]; have q_ := blk_alloc (blk_alloc (blk_alloc (blk_alloc (blk_alloc (blk_alloc (blk_alloc (blk_alloc (blk_new (w0.alloc (.cells #[.bool true, .bool false] 4)) (.cells #[.int .i64 0, .int .i64 0, .int .i64 0] 2)) (.cells #[.int .i64 0, .int .i64 1, .int .i64 0] 2)) (.cells #[.int .i64 0, .int .i64 3, .int .i64 0] 2)) (.cells #[.int .i64 0, .int .i64 4, .int .i64 0] 2)) (.cells #[.int .i64 0, .int .i64 2, .int .i64 1] 2)) (.cells #[.int .i64 0, .int .i64 5, .int .i64 1] 2)) (.cells #[.int .i64 1, .int .i64 2, .int .i64 1] 2)) (.cells #[.int .i64 1, .int .i64 5, .int .i64 1] 2)) (.cells #[.slice (some ⟨w0.heap.size + 1, 0, none⟩) 3 3, .slice (some ⟨w0.heap.size + 1 + 1, 0, none⟩) 3 3, .slice (some ⟨w0.heap.size + 1 + 1 + 1, 0, none⟩) 3 3, .slice (some ⟨w0.heap.size + 1 + 1 + 1 + 1, 0, none⟩) 3 3, .slice (some ⟨w0.heap.size + 1 + 1 + 1 + 1 + 1, 0, none⟩) 3 3, .slice (some ⟨w0.heap.size + 1 + 1 + 1 + 1 + 1 + 1, 0, none⟩) 3 3, .slice (some ⟨w0.heap.size + 1 + 1 + 1 + 1 + 1 + 1 + 1, 0, none⟩) 3 3, .slice (some ⟨w0.heap.size + 1 + 1 + 1 + 1 + 1 + 1 + 1 + 1, 0, none⟩) 3 3] 55); simpa using q_
 have b2 : W.heap[w0.heap.size + 1 + 1]? = some (.cells #[.int .i64 0, .int .i64 1, .int .i64 0] 2 (0, 0)) := by rw [hW]; have q_ := blk_alloc (blk_alloc (blk_alloc (blk_alloc (blk_alloc (blk_alloc (blk_alloc (blk_new ((w0.alloc (.cells #[.bool true, .bool false] 4)).alloc (.cells #[.int .i64 0, .int .i64 0, .int .i64 0] 2)) (.cells #[.int .i64 0, .int .i64 1, .int .i64 0] 2)) (.cells #[.int .i64 0, .int .i64 3, .int .i64 0] 2)) (.cells #[.int .i64 0, .int .i64 4, .int .i64 0] 2)) (.cells #[.int .i64 0, .int .i64 2, .int .i64 1] 2)) (.cells #[.int .i64 0, .int .i64 5, .int .i64 1] 2)) (.cells #[.int .i64 1, .int .i64 2, .int .i64 1] 2)) (.cells #[.int .i64 1, .int .i64 5, .int .i64 1] 2)) (.cells #[.slice (some ⟨w0.heap.size + 1, 0, none⟩) 3 3, .slice (some ⟨w0.heap.size + 1 + 1, 0, none⟩) 3 3, .slice (some ⟨w0.heap.size + 1 + 1 + 1, 0, none⟩) 3 3, .slice (some ⟨w0.heap.size + 1 + 1 + 1 + 1, 0, none⟩) 3 3, .slice (some ⟨w0.heap.size + 1 + 1 + 1 + 1 + 1, 0, none⟩) 3 3, .slice (some ⟨w0.heap.size + 1 + 1 + 1 + 1 + 1 + 1, 0, none⟩) 3 3, .slice (some ⟨w0.heap.size + 1 + 1 + 1 + 1 + 1 + 1 + 1, 0, none⟩) 3 3, .slice (some ⟨w0.heap.size + 1 + 1 + 1 + 1 + 1 + 1 + 1 + 1, 0, none⟩) 3 3] 55); simpa using q_
 have b3 : W.heap[w0.heap.size + 1 + 1 + 1]? = some (.cells #[.int .i64 0, .int .i64 3, .int .i64 0] 2 (0, 0)) := by rw [hW]; have q_ := blk_alloc (blk_alloc (blk_alloc (blk_alloc (blk_alloc (blk_alloc (blk_new (((w0.alloc (.cells #[.bool true, .bool false] 4)).alloc (.cells #[.int .i64 0, .int .i64 0, .int .i64 0] 2)).alloc (.cells #[.int .i64 0, .int .i64 1, .int .i64 0] 2)) (.cells #[.int .i64 0, .int .i64 3, .int .i64 0] 2)) (.cells #[.int .i64 0, .int .i64 4, .int .i64 0] 2)) (.cells #[.int .i64 0, .int .i64 2, .int .i64 1] 2)) (.cells #[.int .i64 0, .int .i64 5, .int .i64 1] 2)) (.cells #[.int .i64 1, .int .i64 2, .int .i64 1] 2)) (.cells #[.int .i64 1, .int .i64 5, .int .i64 1] 2)) (.cells #[.slice (some ⟨w0.heap.size + 1, 0, none⟩) 3 3, .slice (some ⟨w0.heap.size + 1 + 1, 0, none⟩) 3 3, .slice (some ⟨w0.heap.size + 1 + 1 + 1, 0, none⟩) 3 3, .slice (some ⟨w0.heap.size + 1 + 1 + 1 + 1, 0, none⟩) 3 3, .slice (some ⟨w0.heap.size + 1 + 1 + 1 + 1 + 1, 0, none⟩) 3 3, .slice (some ⟨w0.heap.size + 1 + 1 + 1 + 1 + 1 + 1, 0, none⟩) 3 3, .slice (some ⟨w0.heap.size + 1 + 1 + 1 + 1 + 1 + 1 + 1, 0, none⟩) 3 3, .slice (some ⟨w0.heap.size + 1 + 1 + 1 + 1 + 1 + 1 + 1 + 1, 0, none⟩) 3 3] 55); simpa using q_
 have b4 : W.heap[w0.heap.size + 1 + 1 + 1 + 1]? = some (.cells #[.int .i64 0, .int .i64 4, .int .i64 0] 2 (0, 0)) := by rw [hW]; have q_ := blk_alloc (blk_alloc (blk_alloc (blk_alloc (blk_alloc (blk_new ((((w0.alloc (.cells #[.bool true, .bool false] 4)).alloc (.cells #[.int .i64 0, .int .i64 0, .int .i64 0] 2)).alloc (.cells #[.int .i64 0, .int .i64 1, .int .i64 0] 2)).alloc (.cells #[.int .i64 0, .int .i64 3, .int .i64 0] 2)) (.cells #[.int .i64 0, .int .i64 4, .int .i64 0] 2)) (.cells #[.int .i64 0, .int .i64 2, .int .i64 1] 2)) (.cells #[.int .i64 0, .int .i64 5, .int .i64 1] 2)) (.cells #[.int .i64 1, .int .i64 2, .int .i64 1] 2)) (.cells #[.int .i64 1, .int .i64 5, .int .i64 1] 2)) (.cells #[.slice (some ⟨w0.heap.size + 1, 0, none⟩) 3 3, .slice (some ⟨w0.heap.size + 1 + 1, 0, none⟩) 3 3, .slice (some ⟨w0.heap.size + 1 + 1 + 1, 0, none⟩) 3 3, .slice (some ⟨w0.heap.size + 1 + 1 + 1 + 1, 0, none⟩) 3 3, .slice (some ⟨w0.heap.size + 1 + 1 + 1 + 1 + 1, 0, none⟩) 3 3, .slice (some ⟨w0.heap.size + 1 + 1 + 1 + 1 + 1 + 1, 0, none⟩) 3 3, .slice (some ⟨w0.heap.size + 1 + 1 + 1 + 1 + 1 + 1 + 1, 0, none⟩) 3 3, .slice (some ⟨w0.heap.size + 1 + 1 + 1 + 1 + 1 + 1 + 1 + 1, 0, none⟩) 3 3] 55); simpa using q_
 have b5 : W.heap[w0.heap.size + 1 + 1 + 1 + 1 + 1]? = some (.cells #[.int .i64 0, .int .i64 2, .int .i64 1] 2 (0, 0)) := by rw [hW]; have q_ := blk_alloc (blk_alloc (blk_alloc (blk_alloc (blk_new (((((w0.alloc (.cells #[.bool true, .bool false] 4)).alloc (.cells #[.int .i64 0, .int .i64 0, .int .i64 0] 2)).alloc (.cells #[.int .i64 0, .int .i64 1, .int .i64 0] 2)).alloc (.cells #[.int .i64 0, .int .i64 3, .int .i64 0] 2)).alloc (.cells #[.int .i64 0, .int .i64 4, .int .i64 0] 2)) (.cells #[.int .i64 0, .int .i64 2, .int .i64 1] 2)) (.cells #[.int .i64 0, .int .i64 5, .int .i64 1] 2)) (.cells #[.int .i64 1, .int .i64 2, .int .i64 1] 2)) (.cells #[.int .i64 1, .int .i64 5, .int .i64 1] 2)) (.cells #[.slice (some ⟨w0.heap.size + 1, 0, none⟩) 3 3, .slice (some ⟨w0.heap.size + 1 + 1, 0, none⟩) 3 3, .slice (some ⟨w0.heap.size + 1 + 1 + 1, 0, none⟩) 3 3, .slice (some ⟨w0.heap.size + 1 + 1 + 1 + 1, 0, none⟩) 3 3, .slice (some ⟨w0.heap.size + 1 + 1 + 1 + 1 + 1, 0, none⟩) 3 3, .slice (some ⟨w0.heap.size + 1 + 1 + 1 + 1 + 1 + 1, 0, none⟩) 3 3, .slice (some ⟨w0.heap.size + 1 + 1 + 1 + 1 + 1 + 1 + 1, 0, none⟩) 3 3, .slice (some ⟨w0.heap.size + 1 + 1 + 1 + 1 + 1 + 1 + 1 + 1, 0, none⟩) 3 3] 55); simpa using q_
 have b6 : W.heap[w0.heap.size + 1 + 1 + 1 + 1 + 1 + 1]? = some (.cells #[.int .i64 0, .int .i64 5, .int .i64 1] 2 (0, 0)) := by rw [hW]; have q_ := blk_alloc (blk_alloc (blk_alloc (blk_new ((((((w0.alloc (.cells #[.bool true, .bool false] 4)).alloc (.cells #[.int .i64 0, .int .i64 0, .int .i64 0] 2)).alloc (.cells #[.int .i64 0, .int .i64 1, .int .i64 0] 2)).alloc (.cells #[.int .i64 0, .int .i64 3, .int .i64 0] 2)).alloc (.cells #[.int .i64 0, .int .i64 4, .int .i64 0] 2)).alloc (.cells #[.int .i64 0, .int .i64 2, .int .i64 1] 2)) (.cells #[.int .i64 0, .int .i64 5, .int .i64 1] 2)) (.cells #[.int .i64 1, .int .i64 2, .int .i64 1] 2)) (.cells #[.int .i64 1, .int .i64 5, .int .i64 1] 2)) (.cells #[.slice (some ⟨w0.heap.size + 1, 0, none⟩) 3 3, .slice (some ⟨w0.heap.size + 1 + 1, 0, none⟩) 3 3, .slice (some ⟨w0.heap.size + 1 + 1 + 1, 0, none⟩) 3 3, .slice (some ⟨w0.heap.size + 1 + 1 + 1 + 1, 0, none⟩) 3 3, .slice (some ⟨w0.heap.size + 1 + 1 + 1 + 1 + 1, 0, none⟩) 3 3, .slice (some ⟨w0.heap.size + 1 + 1 + 1 + 1 + 1 + 1, 0, none⟩) 3 3, .slice (some ⟨w0.heap.size + 1 + 1 + 1 + 1 + 1 + 1 + 1, 0, none⟩) 3 3, .slice (some ⟨w0.heap.size + 1 + 1 + 1 + 1 + 1 + 1 + 1 + 1, 0, none⟩) 3 3] 55); simpa using q_
 have b7 : W.heap[w0.heap.size + 1 + 1 + 1 + 1 + 1 + 1 + 1]? = some (.cells #[.int .i64 1, .int .i64 2, .int .i64 1] 2 (0, 0)) := by rw [hW]; have q_ := blk_alloc (blk_alloc (blk_new (((((((w0.alloc (.cells #[.bool true, .bool false] 4)).alloc (.cells #[.int .i64 0, .int .i64 0, .int .i64 0] 2)).alloc (.cells #[.int .i64 0, .int .i64 1, .int .i64 0] 2)).alloc (.cells #[.int .i64 0, .int .i64 3, .int .i64 0] 2)).alloc (.cells #[.int .i64 0, .int .i64 4, .int .i64 0] 2)).alloc (.cells #[.int .i64 0, .int .i64 2, .int .i64 1] 2)).alloc (.cells #[.int .i64 0, .int .i64 5, .int .i64 1] 2)) (.cells #[.int .i64 1, .int .i64 2, .int .i64 1] 2)) (.cells #[.int .i64 1, .int .i64 5, .int .i64 1] 2)) (.cells #[.slice (some ⟨w0.heap.size + 1, 0, none⟩) 3 3, .slice (some ⟨w0.heap.size + 1 + 1, 0, none⟩) 3 3, .slice (some ⟨w0.heap.size + 1 + 1 + 1, 0, none⟩) 3 3, .slice (some ⟨w0.heap.size + 1 + 1 + 1 + 1, 0, none⟩) 3 3, .slice (some ⟨w0.heap.size + 1 + 1 + 1 + 1 + 1, 0, none⟩) 3 3, .slice (some ⟨w0.heap.size + 1 + 1 + 1 + 1 + 1 + 1, 0, none⟩) 3 3, .slice (some ⟨w0.heap.size + 1 + 1 + 1 + 1 + 1 + 1 + 1, 0, none⟩) 3 3, .slice (some ⟨w0.heap.size + 1 + 1 + 1 + 1 + 1 + 1 + 1 + 1, 0, none⟩) 3 3] 55); simpa using q_
 have b8 : W.heap[w0.heap.size + 1 + 1 + 1 + 1 + 1 + 1 + 1 + 1]? = some (.cells #[.int .i64 1, .int .i64 5, .int .i64 1] 2 (0, 0)) := by rw [hW]; have q_ := blk_alloc (blk_new ((((((((w0.alloc (.cells #[.bool true, .bool false] 4)).alloc (.cells #[.int .i64 0, .int .i64 0, .int .i64 0] 2)).alloc (.cells #[.int .i64 0, .int .i64 1, .int .i64 0] 2)).alloc (.cells #[.int .i64 0, .int .i64 3, .int .i64 0] 2)).alloc (.cells #[.int .i64 0, .int .i64 4, .int .i64 0] 2)).alloc (.cells #[.int .i64 0, .int .i64 2, .int .i64 1] 2)).alloc (.cells #[.int .i64 0, .int .i64 5, .int .i64 1] 2)).alloc (.cells #[.int .i64 1, .int .i64 2, .int .i64 1] 2)) (.cells #[.int .i64 1, .int .i64 5, .int .i64 1] 2)) (.cells #[.slice (some ⟨w0.heap.size + 1, 0, none⟩) 3 3, .slice (some ⟨w0.heap.size + 1 + 1, 0, none⟩) 3 3, .slice (some ⟨w0.heap.size + 1 + 1 + 1, 0, none⟩) 3 3, .slice (some ⟨w0.heap.size + 1 + 1 + 1 + 1, 0, none⟩) 3 3, .slice (some ⟨w0.heap.size + 1 + 1 + 1 + 1 + 1, 0, none⟩) 3 3, .slice (some ⟨w0.heap.size + 1 + 1 + 1 + 1 + 1 + 1, 0, none⟩) 3 3, .slice (some ⟨w0.heap.size + 1 + 1 + 1 + 1 + 1 + 1 + 1, 0, none⟩) 3 3, .slice (some ⟨w0.heap.size + 1 + 1 + 1 + 1 + 1 + 1 + 1 + 1, 0, none⟩) 3 3] 55); simpa using q_
 have b9 : W.heap[w0.heap.size + 1 + 1 + 1 + 1 + 1 + 1 + 1 + 1 + 1]? = some (.cells #[.slice (some ⟨w0.heap.size + 1, 0, none⟩) 3 3, .slice (some ⟨w0.heap.size + 1 + 1, 0, none⟩) 3 3, .slice (some ⟨w0.heap.size + 1 + 1 + 1, 0, none⟩) 3 3, .slice (some ⟨w0.heap.size + 1 + 1 + 1 + 1, 0, none⟩) 3 3, .slice (some ⟨w0.heap.size + 1 + 1 + 1 + 1 + 1, 0, none⟩) 3 3, .slice (some ⟨w0.heap.size + 1 + 1 + 1 + 1 + 1 + 1, 0, none⟩) 3 3, .slice (some ⟨w0.heap.size + 1 + 1 + 1 + 1 + 1 + 1 + 1, 0, none⟩) 3 3, .slice (some ⟨w0.heap.size + 1 + 1 + 1 + 1 + 1 + 1 + 1 + 1, 0, none⟩) 3 3] 55 (0, 0)) := by rw [hW]; have q_ := blk_new (((((((((w0.alloc (.cells #[.bool true, .bool false] 4)).alloc (.cells #[.int .i64 0, .int .i64 0, .int .i64 0] 2)).alloc (.cells #[.int .i64 0, .int .i64 1, .int .i64 0] 2)).alloc (.cells #[.int .i64 0, .int .i64 3, .int .i64 0] 2)).alloc (.cells #[.int .i64 0, .int .i64 4, .int .i64 0] 2)).alloc (.cells #[.int .i64 0, .int .i64 2, .int .i64 1] 2)).alloc (.cells #[.int .i64 0, .int .i64 5, .int .i64 1] 2)).alloc (.cells #[.int .i64 1, .int .i64 2, .int .i64 1] 2)).alloc (.cells #[.int .i64 1, .int .i64 5, .int .i64 1] 2)) (.cells #[.slice (some ⟨w0.heap.size + 1, 0, none⟩) 3 3, .slice (some ⟨w0.heap.size + 1 + 1, 0, none⟩) 3 3, .slice (some ⟨w0.heap.size + 1 + 1 + 1, 0, none⟩) 3 3, .slice (some ⟨w0.heap.size + 1 + 1 + 1 + 1, 0, none⟩) 3 3, .slice (some ⟨w0.heap.size + 1 + 1 + 1 + 1 + 1, 0, none⟩) 3 3, .slice (some ⟨w0.heap.size + 1 + 1 + 1 + 1 + 1 + 1, 0, none⟩) 3 3, .slice (some ⟨w0.heap.size + 1 + 1 + 1 + 1 + 1 + 1 + 1, 0, none⟩) 3 3, .slice (some ⟨w0.heap.size + 1 + 1 + 1 + 1 + 1 + 1 + 1 + 1, 0, none⟩) 3 3] 55); simpa using q_
 have CB := Aside0.mk (C_boolsL (l := [true, false]) b0 (by decide))
 have c0 := C_intsL (l := [0, 0, 0]) b1 (by decide)
 have c1 := C_intsL (l := [0, 1, 0]) b2 (by decide)
 have c2 := C_intsL (l := [0, 3, 0]) b3 (by decide)
 have c3 := C_intsL (l := [0, 4, 0]) b4 (by decide)
 have c4 := C_intsL (l := [0, 2, 1]) b5 (by decide)
 have c5 := C_intsL (l := [0, 5, 1]) b6 (by decide)
 have c6 := C_intsL (l := [1, 2, 1]) b7 (by decide)
 have c7 := C_intsL (l := [1, 5, 1]) b8 (by decide)
 have CR := Aside0.mk (C_rowsL (ps := [(w0.heap.size + 1, [0, 0, 0]), (w0.heap.size + 1 + 1, [0, 1, 0]), (w0.heap.size + 1 + 1 + 1, [0, 3, 0]), (w0.heap.size + 1 + 1 + 1 + 1, [0, 4, 0]), (w0.heap.size + 1 + 1 + 1 + 1 + 1, [0, 2, 1]), (w0.heap.size + 1 + 1 + 1 + 1 + 1 + 1, [0, 5, 1]), (w0.heap.size + 1 + 1 + 1 + 1 + 1 + 1 + 1, [1, 2, 1]), (w0.heap.size + 1 + 1 + 1 + 1 + 1 + 1 + 1 + 1, [1, 5, 1])]) b9 (by simp) (by intro p hp; simp only [List.mem_cons, List.not_mem_nil, or_false] at hp; rcases hp with rfl|rfl|rfl|rfl|rfl|rfl|rfl|rfl <;> assumption))
 clear b0 b1 b2 b3 b4 b5 b6 b7 b8 b9 c0 c1 c2 c3 c4 c5 c6 c7
 have HB1 := Aside0.mk (below_then HB0'.out HB0'.out.size HBW.out)
 have HBR1 := Aside0.mk (blk_below HBR'.out HBW.out)
 clear HB0' HBR' HBW
 have HK := spec_l02Known.calls k _ _ [true, false] _ _ [[0, 0, 0], [0, 1, 0], [0, 3, 0], [0, 4, 0], [0, 2, 1], [0, 5, 1], [1, 2, 1], [1, 5, 1]] r1 r2 r3 r4 W CB.out (Nat.le_refl _) CR.out (Nat.le_refl _) H.out
 rw [hW] at HK
 have HKH := Aside0.mk HK
 have HWW := Aside0.mk hW
 clear HK hW
 go_wp2_with (fail)
 refine HKH.out.mono ?_
 clear HKH
 rintro e w2 ⟨v2, v3, rfl, hR0, hS0, hb0⟩
 have hR : Kd.R Kd.bool 4 w2 W.heap.size (fun _ => True) v2 r3 := by have e0_ := HWW.out; rw [e0_]; exact hR0
 have hS : Kd.S (Kd.slice 2 (Kd.int .i64)) 55 w2 W.heap.size (fun _ => True) v3 r4 := by have e0_ := HWW.out; rw [e0_]; exact hS0
 have hb : Below W.heap.size W w2 := by have e0_ := HWW.out; rw [e0_]; exact hb0
 clear hR0 hS0 hb0 HWW
 obtain ⟨B2, d2, hv2⟩ := Kd.R_slice hR
 subst hv2
 obtain ⟨B3, d3, hv3⟩ := Kd.S_slice hS
 subst hv3
 have HB2 := Aside0.mk (below_then HB1.out HB1.out.size hb)
 have HBR2 := Aside0.mk (blk_below HBR1.out hb)
 have HE := Aside0.mk (fill_endRL (w := w) hR hS HB1.out.size HB2.out HBR2.out (by omega) (.int .i64 r1) (.int .i64 r2))
 have n0 : w2.cell? ⟨w.heap.size, 0, none⟩ = some (.int .i64 0) := (blk_cell HBR2.out 0).trans rfl
 have n1 : w2.cell? ⟨w.heap.size, 1, none⟩ = some (.int .i64 0) := (blk_cell HBR2.out 1).trans rfl
 have n2 : w2.cell? ⟨w.heap.size, 2, none⟩ = some (.slice none 0 0) := (blk_cell HBR2.out 2).trans rfl
 have n3 : w2.cell? ⟨w.heap.size, 3, none⟩ = some (.slice none 0 0) := (blk_cell HBR2.out 3).trans rfl
 have f0 := blk_frozen HBR2.out 0
 have f1 := blk_frozen HBR2.out 1
 have f2 := blk_frozen HBR2.out 2
 have f3 := blk_frozen HBR2.out 3
 clear HB1 HBR1 HB2 HBR2 hR hS hb CB CR
 go_wp2
 refine bodyPost_ret (v := .tuple #[.agg #[.int .i64 r1, .int .i64 r2, .slice B2 r3.length d2, .slice B3 r4.length d3], .int .i64 0]) (by simp [results, Tryd.results36, go_sem, n0, n1, n2, n3]) rfl ⟨_, _, rfl, HE.out⟩
set_option maxHeartbeats 8000000 in
set_option maxRecDepth 100000 in
theorem lengthRel2 (k : Nat) (r1 : Int) (r2 : Int) (r3 : List Bool) (r4 : List (List Int)) (w : World) (h : spec_l02Known.f k [false, true] [[0, 0, 0], [0, 1, 0], [0, 3, 0], [0, 4, 0], [0, 2, 1], [0, 5, 1], [1, 2, 1], [1, 5, 1]] = some (r1, r2, r3, r4)) :
  Calls Tryd.prog 36 #[.int .i64 2] w fun e w' => ∃ v2_ v3_ : Value, e = .returned (.tuple #[.agg #[.int .i64 r1, .int .i64 r2, v2_, v3_], .int .i64 0]) ∧ Kd.R Kd.bool 4 w' w.heap.size (fun _ => True) v2_ r3 ∧ Kd.S (Kd.slice 2 (Kd.int .i64)) 55 w' w.heap.size (fun _ => True) v3_ r4 ∧ Below w.heap.size w w' := by
 have H := Aside0.mk h
 clear h
 have hwi := Aside0.mk (show spec_l00In.f 2 1 3 = some true by decide)
 have HB0 := Aside0.mk (below_alloc (Below.refl w.heap.size w) (.cells #[.int .i64 0, .int .i64 0, .slice none 0 0, .slice none 0 0] 28))
 have HBR := Aside0.mk (blk_new w (.cells #[.int .i64 0, .int .i64 0, .slice none 0 0, .slice none 0 0] 28))
 go_enter Tryd.func36, Tryd.ntmps36
 go_wp2_with (fail)
 generalize w.alloc _ = w1 at *
 with_reducible refine (spec_l00In.calls 2 1 3 true _ hwi.out).mono ?_
 rintro e w0 ⟨rfl, hd⟩
 have hb := hd.below
 have HB0' := Aside0.mk (below_then HB0.out HB0.out.size hb)
 have HBR' := Aside0.mk (blk_below HBR.out hb)
 clear HB0 HBR hd hb
 obtain ⟨W, hW⟩ : ∃ W, W = ((((((((((w0.alloc (.cells #[.bool false, .bool true] 4)).alloc (.cells #[.int .i64 0, .int .i64 0, .int .i64 0] 2)).alloc (.cells #[.int .i64 0, .int .i64 1, .int .i64 0] 2)).alloc (.cells #[.int .i64 0, .int .i64 3, .int .i64 0] 2)).alloc (.cells #[.int .i64 0, .int .i64 4, .int .i64 0] 2)).alloc (.cells #[.int .i64 0, .int .i64 2, .int .i64 1] 2)).alloc (.cells #[.int .i64 0, .int .i64 5, .int .i64 1] 2)).alloc (.cells #[.int .i64 1, .int .i64 2, .int .i64 1] 2)).alloc (.cells #[.int .i64 1, .int .i64 5, .int .i64 1] 2)).alloc (.cells #[.slice (some ⟨w0.heap.size + 1, 0, none⟩) 3 3, .slice (some ⟨w0.heap.size + 1 + 1, 0, none⟩) 3 3, .slice (some ⟨w0.heap.size + 1 + 1 + 1, 0, none⟩) 3 3, .slice (some ⟨w0.heap.size + 1 + 1 + 1 + 1, 0, none⟩) 3 3, .slice (some ⟨w0.heap.size + 1 + 1 + 1 + 1 + 1, 0, none⟩) 3 3, .slice (some ⟨w0.heap.size + 1 + 1 + 1 + 1 + 1 + 1, 0, none⟩) 3 3, .slice (some ⟨w0.heap.size + 1 + 1 + 1 + 1 + 1 + 1 + 1, 0, none⟩) 3 3, .slice (some ⟨w0.heap.size + 1 + 1 + 1 + 1 + 1 + 1 + 1 + 1, 0, none⟩) 3 3] 55)) := ⟨_, rfl⟩
 have HBW := Aside0.mk (show Below w0.heap.size w0 W by rw [hW]; exact below_alloc (below_alloc (below_alloc (below_alloc (below_alloc (below_alloc (below_alloc (below_alloc (below_alloc (below_alloc (Below.refl _ _) _) _) _) _) _) _) _) _) _) _)
 have b0 : W.heap[w0.heap.size]? = some (.cells #[.bool false, .bool true] 4 (0, 0)) := by rw [hW]; have q_ := blk_alloc (blk_alloc (blk_alloc (blk_alloc (blk_alloc (blk_alloc (blk_alloc (blk_alloc (blk_alloc (blk_new w0 (.cells #[.bool false, .bool true] 4)) (.cells #[.int .i64 0, .int .i64 0, .int .i64 0] 2)) (.cells #[.int .i64 0, .int .i64 1, .int .i64 0] 2)) (.cells #[.int .i64 0, .int .i64 3, .int .i64 0] 2)) (.cells #[.int .i64 0, .int .i64 4, .int .i64 0] 2)) (.cells #[.int .i64 0, .int .i64 2, .int .i64 1] 2)) (.cells #[.int .i64 0, .int .i64 5, .int .i64 1] 2)) (.cells #[.int .i64 1, .int .i64 2, .int .i64 1] 2)) (.cells #[.int .i64 1, .int .i64 5, .int .i64 1] 2)) (.cells #[.slice (some ⟨w0.heap.size + 1, 0, none⟩) 3 3, .slice (some ⟨w0.heap.size + 1 + 1, 0, none⟩) 3 3, .slice (some ⟨w0.heap.size + 1 + 1 + 1, 0, none⟩) 3 3, .slice (some ⟨w0.heap.size + 1 + 1 + 1 + 1, 0, none⟩) 3 3, .slice (some ⟨w0.heap.size + 1 + 1 + 1 + 1 + 1, 0, none⟩) 3 3, .slice (some ⟨w0.heap.size + 1 + 1 + 1 + 1 + 1 + 1, 0, none⟩) 3 3, .slice (some ⟨w0.heap.size + 1 + 1 + 1 + 1 + 1 + 1 + 1, 0, none⟩) 3 3, .slice (some ⟨w0.heap.size + 1 + 1 + 1 + 1 + 1 + 1 + 1 + 1, 0, none⟩) 3 3] 55); simpa using q_
 have b1 : W.heap[w0.heap.size + 1]? = some (.cells #[.int .i64 0, .int .i64 0, .int .i64 0] 2 (0, 0)) := by rw [hW]; have q_ := blk_alloc (blk_alloc (blk_alloc (blk_alloc (blk_alloc (blk_alloc (blk_alloc (blk_alloc (blk_new (w0.alloc (.cells #[.bool false, .bool true] 4)) (.cells #[.int .i64 0, .int .i64 0, .int .i64 0] 2)) (.cells #[.int .i64 0, .int .i64 1, .int .i64 0] 2)) (.cells #[.int .i64 0, .int .i64 3, .int .i64 0] 2)) (.cells #[.int .i64 0, .int .i64 4, .int .i64 0] 2)) (.cells #[.int .i64 0, .int .i64 2, .int .i64 1] 2)) (.cells #[.int .i64 0, .int .i64 5, .int .i64 1] 2)) (.cells #[.int .i64 1, .int .i64 2, .int .i64 1] 2)) (.cells #[.int .i64 1, .int .i64 5, .int .i64 1] 2)) (.cells #[.slice (some ⟨w0.heap.size + 1, 0, none⟩) 3 3, .slice (some ⟨w0.heap.size + 1 + 1, 0, none⟩) 3 3, .slice (some ⟨w0.heap.size + 1 + 1 + 1, 0, none⟩) 3 3, .slice (some ⟨w0.heap.size + 1 + 1 + 1 + 1, 0, none⟩) 3 3, .slice (some ⟨w0.heap.size + 1 + 1 + 1 + 1 + 1, 0, none⟩) 3 3, .slice (some ⟨w0.heap.size + 1 + 1 + 1 + 1 + 1 + 1, 0, none⟩) 3 3, .slice (some ⟨w0.heap.size + 1 + 1 + 1 + 1 + 1 + 1 + 1, 0, none⟩) 3 3, .slice (some ⟨w0.heap.size + 1 + 1 + 1 + 1 + 1 + 1 + 1 + 1, 0, none⟩) 3 3] 55); simpa using q_
 have b2 : W.heap[w0.heap.size + 1 + 1]? = some (.cells #[.int .i64 0, .int .i64 1, .int .i64 0] 2 (0, 0)) := by rw [hW]; have q_ := blk_alloc (blk_alloc (blk_alloc (blk_alloc (blk_alloc (blk_alloc (blk_alloc (blk_new ((w0.alloc (.cells #[.bool false, .bool true] 4)).alloc (.cells #[.int .i64 0, .int .i64 0, .int .i64 0] 2)) (.cells #[.int .i64 0, .int .i64 1, .int .i64 0] 2)) (.cells #[.int .i64 0, .int .i64 3, .int .i64 0] 2)) (.cells #[.int .i64 0, .int .i64 4, .int .i64 0] 2)) (.cells #[.int .i64 0, .int .i64 2, .int .i64 1] 2)) (.cells #[.int .i64 0, .int .i64 5, .int .i64 1] 2)) (.cells #[.int .i64 1, .int .i64 2, .int .i64 1] 2)) (.cells #[.int .i64 1, .int .i64 5, .int .i64 1] 2)) (.cells #[.slice (some ⟨w0.heap.size + 1, 0, none⟩) 3 3, .slice (some ⟨w0.heap.size + 1 + 1, 0, none⟩) 3 3, .slice (some ⟨w0.heap.size + 1 + 1 + 1, 0, none⟩) 3 3, .slice (some ⟨w0.heap.size + 1 + 1 + 1 + 1, 0, none⟩) 3 3, .slice (some ⟨w0.heap.size + 1 + 1 + 1 + 1 + 1, 0, none⟩) 3 3, .slice (some ⟨w0.heap.size + 1 + 1 + 1 + 1 + 1 + 1, 0, none⟩) 3 3, .slice (some ⟨w0.heap.size + 1 + 1 + 1 + 1 + 1 + 1 + 1, 0, none⟩) 3 3, .slice (some ⟨w0.heap.size + 1 + 1 + 1 + 1 + 1 + 1 + 1 + 1, 0, none⟩) 3 3] 55); simpa using q_
 have b3 : W.heap[w0.heap.size + 1 + 1 + 1]? = some (.cells #[.int .i64 0, .int .i64 3, .int .i64 0] 2 (0, 0)) := by rw [hW]; have q_ := blk_alloc (blk_alloc (blk_alloc (blk_alloc (blk_alloc (blk_alloc (blk_new (((w0.alloc (.cells #[.bool false, .bool true] 4)).alloc (.cells #[.int .i64 0, .int .i64 0, .int .i64 0] 2)).alloc (.cells #[.int .i64 0, .int .i64 1, .int .i64 0] 2)) (.cells #[.int .i64 0, .int .i64 3, .int .i64 0] 2)) (.cells #[.int .i64 0, .int .i64 4, .int .i64 0] 2)) (.cells #[.int .i64 0, .int .i64 2, .int .i64 1] 2)) (.cells #[.int .i64 0, .int .i64 5, .int .i64 1] 2)) (.cells #[.int .i64 1, .int .i64 2, .int .i64 1] 2)) (.cells #[.int .i64 1, .int .i64 5, .int .i64 1] 2)) (.cells #[.slice (some ⟨w0.heap.size + 1, 0, none⟩) 3 3, .slice (some ⟨w0.heap.size + 1 + 1, 0, none⟩) 3 3, .slice (some ⟨w0.heap.size + 1 + 1 + 1, 0, none⟩) 3 3, .slice (some ⟨w0.heap.size + 1 + 1 + 1 + 1, 0, none⟩) 3 3, .slice (some ⟨w0.heap.size + 1 + 1 + 1 + 1 + 1, 0, none⟩) 3 3, .slice (some ⟨w0.heap.size + 1 + 1 + 1 + 1 + 1 + 1, 0, none⟩) 3 3, .slice (some ⟨w0.heap.size + 1 + 1 + 1 + 1 + 1 + 1 + 1, 0, none⟩) 3 3, .slice (some ⟨w0.heap.size + 1 + 1 + 1 + 1 + 1 + 1 + 1 + 1, 0, none⟩) 3 3] 55); simpa using q_
 have b4 : W.heap[w0.heap.size + 1 + 1 + 1 + 1]? = some (.cells #[.int .i64 0, .int .i64 4, .int .i64 0] 2 (0, 0)) := by rw [hW]; have q_ := blk_alloc (blk_alloc (blk_alloc (blk_alloc (blk_alloc (blk_new ((((w0.alloc (.cells #[.bool false, .bool true] 4)).alloc (.cells #[.int .i64 0, .int .i64 0, .int .i64 0] 2)).alloc (.cells #[.int .i64 0, .int .i64 1, .int .i64 0] 2)).alloc (.cells #[.int .i64 0, .int .i64 3, .int .i64 0] 2)) (.cells #[.int .i64 0, .int .i64 4, .int .i64 0] 2)) (.cells #[.int .i64 0, .int .i64 2, .int .i64 1] 2)) (.cells #[.int .i64 0, .int .i64 5, .int .i64 1] 2)) (.cells #[.int .i64 1, .int .i64 2, .int .i64 1] 2)) (.cells #[.int .i64 1, .int .i64 5, .int .i64 1] 2)) (.cells #[.slice (some ⟨w0.heap.size + 1, 0, none⟩) 3 3, .slice (some ⟨w0.heap.size + 1 + 1, 0, none⟩) 3 3, .slice (some ⟨w0.heap.size + 1 + 1 + 1, 0, none⟩) 3 3, .slice (some ⟨w0.heap.size + 1 + 1 + 1 + 1, 0, none⟩) 3 3, .slice (some ⟨w0.heap.size + 1 + 1 + 1 + 1 + 1, 0, none⟩) 3 3, .slice (some ⟨w0.heap.size + 1 + 1 + 1 + 1 + 1 + 1, 0, none⟩) 3 3, .slice (some ⟨w0.heap.size + 1 + 1 + 1 + 1 + 1 + 1 + 1, 0, none⟩) 3 3, .slice (some ⟨w0.heap.size + 1 + 1 + 1 + 1 + 1 + 1 + 1 + 1, 0, none⟩) 3 3] 55); simpa using q_
 have b5 : W.heap[w0.heap.size + 1 + 1 + 1 + 1 + 1]? = some (.cells #[.int .i64 0, .int .i64 2, .int .i64 1] 2 (0, 0)) := by rw [hW]; have q_ := blk_alloc (blk_alloc (blk_alloc (blk_alloc (blk_new (((((w0.alloc (.cells #[.bool false, .bool true] 4)).alloc (.cells #[.int .i64 0, .int .i64 0, .int .i64 0] 2)).alloc (.cells #[.int .i64 0, .int .i64 1, .int .i64 0] 2)).alloc (.cells #[.int .i64 0, .int .i64 3, .int .i64 0] 2)).alloc (.cells #[.int .i64 0, .int .i64 4, .int .i64 0] 2)) (.cells #[.int .i64 0, .int .i64 2, .int .i64 1] 2)) (.cells #[.int .i64 0, .int .i64 5, .int .i64 1] 2)) (.cells #[.int .i64 1, .int .i64 2, .int .i64 1] 2)) (.cells #[.int .i64 1, .int .i64 5, .int .i64 1] 2)) (.cells #[.slice (some ⟨w0.heap.size + 1, 0, none⟩) 3 3, .slice (some ⟨w0.heap.size + 1 + 1, 0, none⟩) 3 3, .slice (some ⟨w0.heap.size + 1 + 1 + 1, 0, none⟩) 3 3, .slice (some ⟨w0.heap.size + 1 + 1 + 1 + 1, 0, none⟩) 3 3, .slice (some ⟨w0.heap.size + 1 + 1 + 1 + 1 + 1, 0, none⟩) 3 3, .slice (some ⟨w0.heap.size + 1 + 1 + 1 + 1 + 1 + 1, 0, none⟩) 3 3, .slice (some ⟨w0.heap.size + 1 + 1 + 1 + 1 + 1 + 1 + 1, 0, none⟩) 3 3, .slice (some ⟨w0.heap.size + 1 + 1 + 1 + 1 + 1 + 1 + 1 + 1, 0, none⟩) 3 3] 55); simpa using q_
 have b6 : W.heap[w0.heap.size + 1 + 1 + 1 + 1 + 1 + 1]? = some (.cells #[.int .i64 0, .int .i64 5, .int .i64 1] 2 (0, 0)) := by rw [hW]; have q_ := blk_alloc (blk_alloc (blk_alloc (blk_new ((((((w0.alloc (.cells #[.bool false, .bool true] 4)).alloc (.cells #[.int .i64 0, .int .i64 0, .int .i64 0] 2)).alloc (.cells #[.int .i64 0, .int .i64 1, .int .i64 0] 2)).alloc (.cells #[.int .i64 0, .int .i64 3, .int .i64 0] 2)).alloc (.cells #[.int .i64 0, .int .i64 4, .int .i64 0] 2)).alloc (.cells #[.int .i64 0, .int .i64 2, .int .i64 1] 2)) (.cells #[.int .i64 0, .int .i64 5, .int .i64 1] 2)) (.cells #[.int .i64 1, .int .i64 2, .int .i64 1] 2)) (.cells #[.int .i64 1, .int .i64 5, .int .i64 1] 2)) (.cells #[.slice (some ⟨w0.heap.size + 1, 0, none⟩) 3 3, .slice (some ⟨w0.heap.size + 1 + 1, 0, none⟩) 3 3, .slice (some ⟨w0.heap.size + 1 + 1 + 1, 0, none⟩) 3 3, .slice (some ⟨w0.heap.size + 1 + 1 + 1 + 1, 0, none⟩) 3 3, .slice (some ⟨w0.heap.size + 1 + 1 + 1 + 1 + 1, 0, none⟩) 3 3, .slice (some ⟨w0.heap.size + 1 + 1 + 1 + 1 + 1 + 1, 0, none⟩) 3 3, .slice (some ⟨w0.heap.size + 1 + 1 + 1 + 1 + 1 + 1 + 1, 0, none⟩) 3 3, .slice (some ⟨w0.heap.size + 1 + 1 + 1 + 1 + 1 + 1 + 1 + 1, 0, none⟩) 3 3] 55); simpa using q_
 have b7 : W.heap[w0.heap.size + 1 + 1 + 1 + 1 + 1 + 1 + 1]? = some (.cells #[.int .i64 1, .int .i64 2, .int .i64 1] 2 (0, 0)) := by rw [hW]; have q_ := blk_alloc (blk_alloc (blk_new (((((((w0.alloc (.cells #[.bool false, .bool true] 4)).alloc (.cells #[.int .i64 0, .int .i64 0, .int .i64 0] 2)).alloc (.cells #[.int .i64 0, .int .i64 1, .int .i64 0] 2)).alloc (.cells #[.int .i64 0, .int .i64 3, .int .i64 0] 2)).alloc (.cells #[.int .i64 0, .int .i64 4, .int .i64 0] 2)).alloc (.cells #[.int .i64 0, .int .i64 2, .int .i64 1] 2)).alloc (.cells #[.int .i64 0, .int .i64 5, .int .i64 1] 2)) (.cells #[.int .i64 1, .int .i64 2, .int .i64 1] 2)) (.cells #[.int .i64 1, .int .i64 5, .int .i64 1] 2)) (.cells #[.slice (some ⟨w0.heap.size + 1, 0, none⟩) 3 3, .slice (some ⟨w0.heap.size + 1 + 1, 0, none⟩) 3 3, .slice (some ⟨w0.heap.size + 1 + 1 + 1, 0, none⟩) 3 3, .slice (some ⟨w0.heap.size + 1 + 1 + 1 + 1, 0, none⟩) 3 3, .slice (some ⟨w0.heap.size + 1 + 1 + 1 + 1 + 1, 0, none⟩) 3 3, .slice (some ⟨w0.heap.size + 1 + 1 + 1 + 1 + 1 + 1, 0, none⟩) 3 3, .slice (some ⟨w0.heap.size + 1 + 1 + 1 + 1 + 1 + 1 + 1, 0, none⟩) 3 3, .slice (some ⟨w0.heap.size + 1 + 1 + 1 + 1 + 1 + 1 + 1 + 1, 0, none⟩) 3 3] 55); simpa using q_
 have b8 : W.heap[w0.heap.size + 1 + 1 + 1 + 1 + 1 + 1 + 1 + 1]? = some (.cells #[.int .i64 1, .int .i64 5, .int .i64 1] 2 (0, 0)) := by rw [hW]; have q_ := blk_alloc (blk_new ((((((((w0.alloc (.cells #[.bool false, .bool true] 4)).alloc (.cells #[.int .i64 0, .int .i64 0, .int .i64 0] 2)).alloc (.cells #[.int .i64 0, .int .i64 1, .int .i64 0] 2)).alloc (.cells #[.int .i64 0, .int .i64 3, .int .i64 0] 2)).alloc (.cells #[.int .i64 0, .int .i64 4, .int .i64 0] 2)).alloc (.cells #[.int .i64 0, .int .i64 2, .int .i64 1] 2)).alloc (.cells #[.int .i64 0, .int .i64 5, .int .i64 1] 2)).alloc (.cells #[.int .i64 1, .int .i64 2, .int .i64 1] 2)) (.cells #[.int .i64 1, .int .i64 5, .int .i64 1] 2)) (.cells #[.slice (some ⟨w0.heap.size + 1, 0, none⟩) 3 3, .slice (some ⟨w0.heap.size + 1 + 1, 0, none⟩) 3 3, .slice (some ⟨w0.heap.size + 1 + 1 + 1, 0, none⟩) 3 3, .slice (some ⟨w0.heap.size + 1 + 1 + 1 + 1, 0, none⟩) 3 3, .slice (some ⟨w0.heap.size + 1 + 1 + 1 + 1 + 1, 0, none⟩) 3 3, .slice (some ⟨w0.heap.size + 1 + 1 + 1 + 1 + 1 + 1, 0, none⟩) 3 3, .slice (some ⟨w0.heap.size + 1 + 1 + 1 + 1 + 1 + 1 + 1, 0, none⟩) 3 3, .slice (some ⟨w0.heap.size + 1 + 1 + 1 + 1 + 1 + 1 + 1 + 1, 0, none⟩) 3 3] 55); simpa using q_
 have b9 : W.heap[w0.heap.size + 1 + 1 + 1 + 1 + 1 + 1 + 1 + 1 + 1]? = some (.cells #[.slice (some ⟨w0.heap.size + 1, 0, none⟩) 3 3, .slice (some ⟨w0.heap.size + 1 + 1, 0, none⟩) 3 3, .slice (some ⟨w0.heap.size + 1 + 1 + 1, 0, none⟩) 3 3, .slice (some ⟨w0.heap.size + 1 + 1 + 1 + 1, 0, none⟩) 3 3, .slice (some ⟨w0.heap.size + 1 + 1 + 1 + 1 + 1, 0, none⟩) 3 3, .slice (some ⟨w0.heap.size + 1 + 1 + 1 + 1 + 1 + 1, 0, none⟩) 3 3, .slice (some ⟨w0.heap.size + 1 + 1 + 1 + 1 + 1 + 1 + 1, 0, none⟩) 3 3, .slice (some ⟨w0.heap.size + 1 + 1 + 1 + 1 + 1 + 1 + 1 + 1, 0, none⟩) 3 3] 55 (0, 0)) := by rw [hW]; have q_ := blk_new (((((((((w0.alloc (.cells #[.bool false, .bool true] 4)).alloc (.cells #[.int .i64 0, .int .i64 0, .int .i64 0] 2)).alloc (.cells #[.int .i64 0, .int .i64 1, .int .i64 0] 2)).alloc (.cells #[.int .i64 0, .int .i64 3, .int .i64 0] 2)).alloc (.cells #[.int .i64 0, .int .i64 4, .int .i64 0] 2)).alloc (.cells #[.int .i64 0, .int .i64 2, .int .i64 1] 2)).alloc (.cells #[.int .i64 0, .int .i64 5, .int .i64 1] 2)).alloc (.cells #[.int .i64 1, .int .i64 2, .int .i64 1] 2)).alloc (.cells #[.int .i64 1, .int .i64 5, .int .i64 1] 2)) (.cells #[.slice (some ⟨w0.heap.size + 1, 0, none⟩) 3 3, .slice (some ⟨w0.heap.size + 1 + 1, 0, none⟩) 3 3, .slice (some ⟨w0.heap.size + 1 + 1 + 1, 0, none⟩) 3 3, .slice (some ⟨w0.heap.size + 1 + 1 + 1 + 1, 0, none⟩) 3 3, .slice (some ⟨w0.heap.size + 1 + 1 + 1 + 1 + 1, 0, none⟩) 3 3, .slice (some ⟨w0.heap.size + 1 + 1 + 1 + 1 + 1 + 1, 0, none⟩) 3 3, .slice (some ⟨w0.heap.size + 1 + 1 + 1 + 1 + 1 + 1 + 1, 0, none⟩) 3 3, .slice (some ⟨w0.heap.size + 1 + 1 + 1 + 1 + 1 + 1 + 1 + 1, 0, none⟩) 3 3] 55); simpa using q_
 have CB := Aside0.mk (C_boolsL (l := [false, true]) b0 (by decide))
 have c0 := C_intsL (l := [0, 0, 0]) b1 (by decide)
 have c1 := C_intsL (l := [0, 1, 0]) b2 (by decide)
 have c2 := C_intsL (l := [0, 3, 0]) b3 (by decide)
 have c3 := C_intsL (l := [0, 4, 0]) b4 (by decide)
 have c4 := C_intsL (l := [0, 2, 1]) b5 (by decide)
 have c5 := C_intsL (l := [0, 5, 1]) b6 (by decide)
 have c6 := C_intsL (l := [1, 2, 1]) b7 (by decide)
 have c7 := C_intsL (l := [1, 5, 1]) b8 (by decide)
 have CR := Aside0.mk (C_rowsL (ps := [(w0.heap.size + 1, [0, 0, 0]), (w0.heap.size + 1 + 1, [0, 1, 0]), (w0.heap.size + 1 + 1 + 1, [0, 3, 0]), (w0.heap.size + 1 + 1 + 1 + 1, [0, 4, 0]), (w0.heap.size + 1 + 1 + 1 + 1 + 1, [0, 2, 1]), (w0.heap.size + 1 + 1 + 1 + 1 + 1 + 1, [0, 5, 1]), (w0.heap.size + 1 + 1 + 1 + 1 + 1 + 1 + 1, [1, 2, 1]), (w0.heap.size + 1 + 1 + 1 + 1 + 1 + 1 + 1 + 1, [1, 5, 1])]) b9 (by simp) (by intro p hp; simp only [List.mem_cons, List.not_mem_nil, or_false] at hp; rcases hp with rfl|rfl|rfl|rfl|rfl|rfl|rfl|rfl <;> assumption))
 clear b0 b1 b2 b3 b4 b5 b6 b7 b8 b9 c0 c1 c2 c3 c4 c5 c6 c7
 have HB1 := Aside0.mk (below_then HB0'.out HB0'.out.size HBW.out)
 have HBR1 := Aside0.mk (blk_below HBR'.out HBW.out)
 clear HB0' HBR' HBW
 have HK := spec_l02Known.calls k _ _ [false, true] _ _ [[0, 0, 0], [0, 1, 0], [0, 3, 0], [0, 4, 0], [0, 2, 1], [0, 5, 1], [1, 2, 1], [1, 5, 1]] r1 r2 r3 r4 W CB.out (Nat.le_refl _) CR.out (Nat.le_refl _) H.out
 rw [hW] at HK
 have HKH := Aside0.mk HK
 have HWW := Aside0.mk hW
 clear HK hW
 go_wp2_with (fail)
 refine HKH.out.mono ?_
 clear HKH
 rintro e w2 ⟨v2, v3, rfl, hR0, hS0, hb0⟩
 have hR : Kd.R Kd.bool 4 w2 W.heap.size (fun _ => True) v2 r3 := by have e0_ := HWW.out; rw [e0_]; exact hR0
 have hS : Kd.S (Kd.slice 2 (Kd.int .i64)) 55 w2 W.heap.size (fun _ => True) v3 r4 := by have e0_ := HWW.out; rw [e0_]; exact hS0
 have hb : Below W.heap.size W w2 := by have e0_ := HWW.out; rw [e0_]; exact hb0
 clear hR0 hS0 hb0 HWW
 obtain ⟨B2, d2, hv2⟩ := Kd.R_slice hR
 subst hv2
 obtain ⟨B3, d3, hv3⟩ := Kd.S_slice hS
 subst hv3
 have HB2 := Aside0.mk (below_then HB1.out HB1.out.size hb)
 have HBR2 := Aside0.mk (blk_below HBR1.out hb)
 have HE := Aside0.mk (fill_endRL (w := w) hR hS HB1.out.size HB2.out HBR2.out (by omega) (.int .i64 r1) (.int .i64 r2))
 have n0 : w2.cell? ⟨w.heap.size, 0, none⟩ = some (.int .i64 0) := (blk_cell HBR2.out 0).trans rfl
 have n1 : w2.cell? ⟨w.heap.size, 1, none⟩ = some (.int .i64 0) := (blk_cell HBR2.out 1).trans rfl
 have n2 : w2.cell? ⟨w.heap.size, 2, none⟩ = some (.slice none 0 0) := (blk_cell HBR2.out 2).trans rfl
 have n3 : w2.cell? ⟨w.heap.size, 3, none⟩ = some (.slice none 0 0) := (blk_cell HBR2.out 3).trans rfl
 have f0 := blk_frozen HBR2.out 0
 have f1 := blk_frozen HBR2.out 1
 have f2 := blk_frozen HBR2.out 2
 have f3 := blk_frozen HBR2.out 3
 clear HB1 HBR1 HB2 HBR2 hR hS hb CB CR
 go_wp2
 refine bodyPost_ret (v := .tuple #[.agg #[.int .i64 r1, .int .i64 r2, .slice B2 r3.length d2, .slice B3 r4.length d3], .int .i64 0]) (by simp [results, Tryd.results36, go_sem, n0, n1, n2, n3]) rfl ⟨_, _, rfl, HE.out⟩
set_option maxHeartbeats 8000000 in
set_option maxRecDepth 100000 in
theorem lengthRel3 (k : Nat) (r1 : Int) (r2 : Int) (r3 : List Bool) (r4 : List (List Int)) (w : World) (h : spec_l02Known.f k [true, true] [[0, 0, 0], [0, 1, 0], [0, 3, 0], [0, 4, 0], [0, 2, 1], [0, 5, 1], [1, 2, 1], [1, 5, 1]] = some (r1, r2, r3, r4)) :
  Calls Tryd.prog 36 #[.int .i64 3] w fun e w' => ∃ v2_ v3_ : Value, e = .returned (.tuple #[.agg #[.int .i64 r1, .int .i64 r2, v2_, v3_], .int .i64 0]) ∧ Kd.R Kd.bool 4 w' w.heap.size (fun _ => True) v2_ r3 ∧ Kd.S (Kd.slice 2 (Kd.int .i64)) 55 w' w.heap.size (fun _ => True) v3_ r4 ∧ Below w.heap.size w w' := by
 have H := Aside0.mk h
 clear h
 have hwi := Aside0.mk (show spec_l00In.f 3 1 3 = some true by decide)
 have HB0 := Aside0.mk (below_alloc (Below.refl w.heap.size w) (.cells #[.int .i64 0, .int .i64 0, .slice none 0 0, .slice none 0 0] 28))
 have HBR := Aside0.mk (blk_new w (.cells #[.int .i64 0, .int .i64 0, .slice none 0 0, .slice none 0 0] 28))
 go_enter Tryd.func36, Tryd.ntmps36
 go_wp2_with (fail)
 generalize w.alloc _ = w1 at *
 with_reducible refine (spec_l00In.calls 3 1 3 true _ hwi.out).mono ?_
 rintro e w0 ⟨rfl, hd⟩
 have hb := hd.below
 have HB0' := Aside0.mk (below_then HB0.out HB0.out.size hb)
 have HBR' := Aside0.mk (blk_below HBR.out hb)
 clear HB0 HBR hd hb
 obtain ⟨W, hW⟩ : ∃ W, W = ((((((((((w0.alloc (.cells #[.bool true, .bool true] 4)).alloc (.cells #[.int .i64 0, .int .i64 0, .int .i64 0] 2)).alloc (.cells #[.int .i64 0, .int .i64 1, .int .i64 0] 2)).alloc (.cells #[.int .i64 0, .int .i64 3, .int .i64 0] 2)).alloc (.cells #[.int .i64 0, .int .i64 4, .int .i64 0] 2)).alloc (.cells #[.int .i64 0, .int .i64 2, .int .i64 1] 2)).alloc (.cells #[.int .i64 0, .int .i64 5, .int .i64 1] 2)).alloc (.cells #[.int .i64 1, .int .i64 2, .int .i64 1] 2)).alloc (.cells #[.int .i64 1, .int .i64 5, .int .i64 1] 2)).alloc (.cells #[.slice (some ⟨w0.heap.size + 1, 0, none⟩) 3 3, .slice (some ⟨w0.heap.size + 1 + 1, 0, none⟩) 3 3, .slice (some ⟨w0.heap.size + 1 + 1 + 1, 0, none⟩) 3 3, .slice (some ⟨w0.heap.size + 1 + 1 + 1 + 1, 0, none⟩) 3 3, .slice (some ⟨w0.heap.size + 1 + 1 + 1 + 1 + 1, 0, none⟩) 3 3, .slice (some ⟨w0.heap.size + 1 + 1 + 1 + 1 + 1 + 1, 0, none⟩) 3 3, .slice (some ⟨w0.heap.size + 1 + 1 + 1 + 1 + 1 + 1 + 1, 0, none⟩) 3 3, .slice (some ⟨w0.heap.size + 1 + 1 + 1 + 1 + 1 + 1 + 1 + 1, 0, none⟩) 3 3] 55)) := ⟨_, rfl⟩
 have HBW := Aside0.mk (show Below w0.heap.size w0 W by rw [hW]; exact below_alloc (below_alloc (below_alloc (below_alloc (below_alloc (below_alloc (below_alloc (below_alloc (below_alloc (below_alloc (Below.refl _ _) _) _) _) _) _) _) _) _) _) _)
 have b0 : W.heap[w0.heap.size]? = some (.cells #[.bool true, .bool true] 4 (0, 0)) := by rw [hW]; have q_ := blk_alloc (blk_alloc (blk_alloc (blk_alloc (blk_alloc (blk_alloc (blk_alloc (blk_alloc (blk_alloc (blk_new w0 (.cells #[.bool true, .bool true] 4)) (.cells #[.int .i64 0, .int .i64 0, .int .i64 0] 2)) (.cells #[.int .i64 0, .int .i64 1, .int .i64 0] 2)) (.cells #[.int .i64 0, .int .i64 3, .int .i64 0] 2)) (.cells #[.int .i64 0, .int .i64 4, .int .i64 0] 2)) (.cells #[.int .i64 0, .int .i64 2, .int .i64 1] 2)) (.cells #[.int .i64 0, .int .i64 5, .int .i64 1] 2)) (.cells #[.int .i64 1, .int .i64 2, .int .i64 1] 2)) (.cells #[.int .i64 1, .int .i64 5, .int .i64 1] 2)) (.cells #[.slice (some ⟨w0.heap.size + 1, 0, none⟩) 3 3, .slice (some ⟨w0.heap.size + 1 + 1, 0, none⟩) 3 3, .slice (some ⟨w0.heap.size + 1 + 1 + 1, 0, none⟩) 3 3, .slice (some ⟨w0.heap.size + 1 + 1 + 1 + 1, 0, none⟩) 3 3, .slice (some ⟨w0.heap.size + 1 + 1 + 1 + 1 + 1, 0, none⟩) 3 3, .slice (some ⟨w0.heap.size + 1 + 1 + 1 + 1 + 1 + 1, 0, none⟩) 3 3, .slice (some ⟨w0.heap.size + 1 + 1 + 1 + 1 + 1 + 1 + 1, 0, none⟩) 3 3, .slice (some ⟨w0.heap.size + 1 + 1 + 1 + 1 + 1 + 1 + 1 + 1, 0, none⟩) 3 3] 55); simpa using q_
 have b1 : W.heap[w0.heap.size + 1]? = some (.cells #[.int .i64 0, .int .i64 0, .int .i64 0] 2 (0, 0)) := by rw [hW]; have q_ := blk_alloc (blk_alloc (blk_alloc (blk_alloc (blk_alloc (blk_alloc (blk_alloc (blk_alloc (blk_new (w0.alloc (.cells #[.bool true, .bool true] 4)) (.cells #[.int .i64 0, .int .i64 0, .int .i64 0] 2)) (.cells #[.int .i64 0, .int .i64 1, .int .i64 0] 2)) (.cells #[.int .i64 0, .int .i64 3, .int .i64 0] 2)) (.cells #[.int .i64 0, .int .i64 4, .int .i64 0] 2)) (.cells #[.int .i64 0, .int .i64 2, .int .i64 1] 2)) (.cells #[.int .i64 0, .int .i64 5, .int .i64 1] 2)) (.cells #[.int .i64 1, .int .i64 2, .int .i64 1] 2)) (.cells #[.int .i64 1, .int .i64 5, .int .i64 1] 2)) (.cells #[.slice (some ⟨w0.heap.size + 1, 0, none⟩) 3 3, .slice (some ⟨w0.heap.size + 1 + 1, 0, none⟩) 3 3, .slice (some ⟨w0.heap.size + 1 + 1 + 1, 0, none⟩) 3 3, .slice (some ⟨w0.heap.size + 1 + 1 + 1 + 1, 0, none⟩) 3 3, .slice (some ⟨w0.heap.size + 1 + 1 + 1 + 1 + 1, 0, none⟩) 3 3, .slice (some ⟨w0.heap.size + 1 + 1 + 1 + 1 + 1 + 1, 0, none⟩) 3 3, .slice (some ⟨w0.heap.size + 1 + 1 + 1 + 1 + 1 + 1 + 1, 0, none⟩) 3 3, .slice (some ⟨w0.heap.size + 1 + 1 + 1 + 1 + 1 + 1 + 1 + 1, 0, none⟩) 3 3] 55); simpa using q_
 have b2 : W.heap[w0.heap.size + 1 + 1]? = some (.cells #[.int .i64 0, .int .i64 1, .int .i64 0] 2 (0, 0)) := by rw [hW]; have q_ := blk_alloc (blk_alloc (blk_alloc (blk_alloc (blk_alloc (blk_alloc (blk_alloc (blk_new ((w0.alloc (.cells #[.bool true, .bool true] 4)).alloc (.cells #[.int .i64 0, .int .i64 0, .int .i64 0] 2)) (.cells #[.int .i64 0, .int .i64 1, .int .i64 0] 2)) (.cells #[.int .i64 0, .int .i64 3, .int .i64 0] 2)) (.cells #[.int .i64 0, .int .i64 4, .int .i64 0] 2)) (.cells #[.int .i64 0, .int .i64 2, .int .i64 1] 2)) (.cells #[.int .i64 0, .int .i64 5, .int .i64 1] 2)) (.cells #[.int .i64 1, .int .i64 2, .int .i64 1] 2)) (.cells #[.int .i64 1, .int .i64 5, .int .i64 1] 2)) (.cells #[.slice (some ⟨w0.heap.size + 1, 0, none⟩) 3 3, .slice (some ⟨w0.heap.size + 1 + 1, 0, none⟩) 3 3, .slice (some ⟨w0.heap.size + 1 + 1 + 1, 0, none⟩) 3 3, .slice (some ⟨w0.heap.size + 1 + 1 + 1 + 1, 0, none⟩) 3 3, .slice (some ⟨w0.heap.size + 1 + 1 + 1 + 1 + 1, 0, none⟩) 3 3, .slice (some ⟨w0.heap.size + 1 + 1 + 1 + 1 + 1 + 1, 0, none⟩) 3 3, .slice (some ⟨w0.heap.size + 1 + 1 + 1 + 1 + 1 + 1 + 1, 0, none⟩) 3 3, .slice (some ⟨w0.heap.size + 1 + 1 + 1 + 1 + 1 + 1 + 1 + 1, 0, none⟩) 3 3] 55); simpa using q_
 have b3 : W.heap[w0.heap.size + 1 + 1 + 1]? = some (.cells #[.int .i64 0, .int .i64 3, .int .i64 0] 2 (0, 0)) := by rw [hW]; have q_ := blk_alloc (blk_alloc (blk_alloc (blk_alloc (blk_alloc (blk_alloc (blk_new (((w0.alloc (.cells #[.bool true, .bool true] 4)).alloc (.cells #[.int .i64 0, .int .i64 0, .int .i64 0] 2)).alloc (.cells #[.int .i64 0, .int .i64 1, .int .i64 0] 2)) (.cells #[.int .i64 0, .int .i64 3, .int .i64 0] 2)) (.cells #[.int .i64 0, .int .i64 4, .int .i64 0] 2)) (.cells #[.int .i64 0, .int .i64 2, .int .i64 1] 2)) (.cells #[.int .i64 0, .int .i64 5, .int .i64 1] 2)) (.cells #[.int .i64 1, .int .i64 2, .int .i64 1] 2)) (.cells #[.int .i64 1, .int .i64 5, .int .i64 1] 2)) (.cells #[.slice (some ⟨w0.heap.size + 1, 0, none⟩) 3 3, .slice (some ⟨w0.heap.size + 1 + 1, 0, none⟩) 3 3, .slice (some ⟨w0.heap.size + 1 + 1 + 1, 0, none⟩) 3 3, .slice (some ⟨w0.heap.size + 1 + 1 + 1 + 1, 0, none⟩) 3 3, .slice (some ⟨w0.heap.size + 1 + 1 + 1 + 1 + 1, 0, none⟩) 3 3, .slice (some ⟨w0.heap.size + 1 + 1 + 1 + 1 + 1 + 1, 0, none⟩) 3 3, .slice (some ⟨w0.heap.size + 1 + 1 + 1 + 1 + 1 + 1 + 1, 0, none⟩) 3 3, .slice (some ⟨w0.heap.size + 1 + 1 + 1 + 1 + 1 + 1 + 1 + 1, 0, none⟩) 3 3] 55); simpa using q_
 have b4 : W.heap[w0.heap.size + 1 + 1 + 1 + 1]? = some (.cells #[.int .i64 0, .int .i64 4, .int .i64 0] 2 (0, 0)) := by rw [hW]; have q_ := blk_alloc (blk_alloc (blk_alloc (blk_alloc (blk_alloc (blk_new ((((w0.alloc (.cells #[.bool true, .bool true] 4)).alloc (.cells #[.int .i64 0, .int .i64 0, .int .i64 0] 2)).alloc (.cells #[.int .i64 0, .int .i64 1, .int .i64 0] 2)).alloc (.cells #[.int .i64 0, .int .i64 3, .int .i64 0] 2)) (.cells #[.int .i64 0, .int .i64 4, .int .i64 0] 2)) (.cells #[.int .i64 0, .int .i64 2, .int .i64 1] 2)) (.cells #[.int .i64 0, .int .i64 5, .int .i64 1] 2)) (.cells #[.int .i64 1, .int .i64 2, .int .i64 1] 2)) (.cells #[.int .i64 1, .int .i64 5, .int .i64 1] 2)) (.cells #[.slice (some ⟨w0.heap.size + 1, 0, none⟩) 3 3, .slice (some ⟨w0.heap.size + 1 + 1, 0, none⟩) 3 3, .slice (some ⟨w0.heap.size + 1 + 1 + 1, 0, none⟩) 3 3, .slice (some ⟨w0.heap.size + 1 + 1 + 1 + 1, 0, none⟩) 3 3, .slice (some ⟨w0.heap.size + 1 + 1 + 1 + 1 + 1, 0, none⟩) 3 3, .slice (some ⟨w0.heap.size + 1 + 1 + 1 + 1 + 1 + 1, 0, none⟩) 3 3, .slice (some ⟨w0.heap.size + 1 + 1 + 1 + 1 + 1 + 1 + 1, 0, none⟩) 3 3, .slice (some ⟨w0.heap.size + 1 + 1 + 1 + 1 + 1 + 1 + 1 + 1, 0, none⟩) 3 3] 55); simpa using q_
 have b5 : W.heap[w0.heap.size + 1 + 1 + 1 + 1 + 1]? = some (.cells #[.int .i64 0, .int .i64 2, .int .i64 1] 2 (0, 0)) := by rw [hW]; have q_ := blk_alloc (blk_alloc (blk_alloc (blk_alloc (blk_new (((((w0.alloc (.cells #[.bool true, .bool true] 4)).alloc (.cells #[.int .i64 0, .int .i64 0, .int .i64 0] 2)).alloc (.cells #[.int .i64 0, .int .i64 1, .int .i64 0] 2)).alloc (.cells #[.int .i64 0, .int .i64 3, .int .i64 0] 2)).alloc (.cells #[.int .i64 0, .int .i64 4, .int .i64 0] 2)) (.cells #[.int .i64 0, .int .i64 2, .int .i64 1] 2)) (.cells #[.int .i64 0, .int .i64 5, .int .i64 1] 2)) (.cells #[.int .i64 1, .int .i64 2, .int .i64 1] 2)) (.cells #[.int .i64 1, .int .i64 5, .int .i64 1] 2)) (.cells #[.slice (some ⟨w0.heap.size + 1, 0, none⟩) 3 3, .slice (some ⟨w0.heap.size + 1 + 1, 0, none⟩) 3 3, .slice (some ⟨w0.heap.size + 1 + 1 + 1, 0, none⟩) 3 3, .slice (some ⟨w0.heap.size + 1 + 1 + 1 + 1, 0, none⟩) 3 3, .slice (some ⟨w0.heap.size + 1 + 1 + 1 + 1 + 1, 0, none⟩) 3 3, .slice (some ⟨w0.heap.size + 1 + 1 + 1 + 1 + 1 + 1, 0, none⟩) 3 3, .slice (some ⟨w0.heap.size + 1 + 1 + 1 + 1 + 1 + 1 + 1, 0, none⟩) 3 3, .slice (some ⟨w0.heap.size + 1 + 1 + 1 + 1 + 1 + 1 + 1 + 1, 0, none⟩) 3 3] 55); simpa using q_
 have b6 : W.heap[w0.heap.size + 1 + 1 + 1 + 1 + 1 + 1]? = some (.cells #[.int .i64 0, .int .i64 5, .int .i64 1] 2 (0, 0)) := by rw [hW]; have q_ := blk_alloc (blk_alloc (blk_alloc (blk_new ((((((w0.alloc (.cells #[.bool true, .bool true] 4)).alloc (.cells #[.int .i64 0, .int .i64 0, .int .i64 0] 2)).alloc (.cells #[.int .i64 0, .int .i64 1, .int .i64 0] 2)).alloc (.cells #[.int .i64 0, .int .i64 3, .int .i64 0] 2)).alloc (.cells #[.int .i64 0, .int .i64 4, .int .i64 0] 2)).alloc (.cells #[.int .i64 0, .int .i64 2, .int .i64 1] 2)) (.cells #[.int .i64 0, .int .i64 5, .int .i64 1] 2)) (.cells #[.int .i64 1, .int .i64 2, .int .i64 1] 2)) (.cells #[.int .i64 1, .int .i64 5, .int .i64 1] 2)) (.cells #[.slice (some ⟨w0.heap.size + 1, 0, none⟩) 3 3, .slice (some ⟨w0.heap.size + 1 + 1, 0, none⟩) 3 3, .slice (some ⟨w0.heap.size + 1 + 1 + 1, 0, none⟩) 3 3, .slice (some ⟨w0.heap.size + 1 + 1 + 1 + 1, 0, none⟩) 3 3, .slice (some ⟨w0.heap.size + 1 + 1 + 1 + 1 + 1, 0, none⟩) 3 3, .slice (some ⟨w0.heap.size + 1 + 1 + 1 + 1 + 1 + 1, 0, none⟩) 3 3, .slice (some ⟨w0.heap.size + 1 + 1 + 1 + 1 + 1 + 1 + 1, 0, none⟩) 3 3, .slice (some ⟨w0.heap.size + 1 + 1 + 1 + 1 + 1 + 1 + 1 + 1, 0, none⟩) 3 3] 55); simpa using q_
 have b7 : W.heap[w0.heap.size + 1 + 1 + 1 + 1 + 1 + 1 + 1]? = some (.cells #[.int .i64 1, .int .i64 2, .int .i64 1] 2 (0, 0)) := by rw [hW]; have q_ := blk_alloc (blk_alloc (blk_new (((((((w0.alloc (.cells #[.bool true, .bool true] 4)).alloc (.cells #[.int .i64 0, .int .i64 0, .int .i64 0] 2)).alloc (.cells #[.int .i64 0, .int .i64 1, .int .i64 0] 2)).alloc (.cells #[.int .i64 0, .int .i64 3, .int .i64 0] 2)).alloc (.cells #[.int .i64 0, .int .i64 4, .int .i64 0] 2)).alloc (.cells #[.int .i64 0, .int .i64 2, .int .i64 1] 2)).alloc (.cells #[.int .i64 0, .int .i64 5, .int .i64 1] 2)) (.cells #[.int .i64 1, .int .i64 2, .int .i64 1] 2)) (.cells #[.int .i64 1, .int .i64 5, .int .i64 1] 2)) (.cells #[.slice (some ⟨w0.heap.size + 1, 0, none⟩) 3 3, .slice (some ⟨w0.heap.size + 1 + 1, 0, none⟩) 3 3, .slice (some ⟨w0.heap.size + 1 + 1 + 1, 0, none⟩) 3 3, .slice (some ⟨w0.heap.size + 1 + 1 + 1 + 1, 0, none⟩) 3 3, .slice (some ⟨w0.heap.size + 1 + 1 + 1 + 1 + 1, 0, none⟩) 3 3, .slice (some ⟨w0.heap.size + 1 + 1 + 1 + 1 + 1 + 1, 0, none⟩) 3 3, .slice (some ⟨w0.heap.size + 1 + 1 + 1 + 1 + 1 + 1 + 1, 0, none⟩) 3 3, .slice (some ⟨w0.heap.size + 1 + 1 + 1 + 1 + 1 + 1 + 1 + 1, 0, none⟩) 3 3] 55); simpa using q_
 have b8 : W.heap[w0.heap.size + 1 + 1 + 1 + 1 + 1 + 1 + 1 + 1]? = some (.cells #[.int .i64 1, .int .i64 5, .int .i64 1] 2 (0, 0)) := by rw [hW]; have q_ := blk_alloc (blk_new ((((((((w0.alloc (.cells #[.bool true, .bool true] 4)).alloc (.cells #[.int .i64 0, .int .i64 0, .int .i64 0] 2)).alloc (.cells #[.int .i64 0, .int .i64 1, .int .i64 0] 2)).alloc (.cells #[.int .i64 0, .int .i64 3, .int .i64 0] 2)).alloc (.cells #[.int .i64 0, .int .i64 4, .int .i64 0] 2)).alloc (.cells #[.int .i64 0, .int .i64 2, .int .i64 1] 2)).alloc (.cells #[.int .i64 0, .int .i64 5, .int .i64 1] 2)).alloc (.cells #[.int .i64 1, .int .i64 2, .int .i64 1] 2)) (.cells #[.int .i64 1, .int .i64 5, .int .i64 1] 2)) (.cells #[.slice (some ⟨w0.heap.size + 1, 0, none⟩) 3 3, .slice (some ⟨w0.heap.size + 1 + 1, 0, none⟩) 3 3, .slice (some ⟨w0.heap.size + 1 + 1 + 1, 0, none⟩) 3 3, .slice (some ⟨w0.heap.size + 1 + 1 + 1 + 1, 0, none⟩) 3 3, .slice (some ⟨w0.heap.size + 1 + 1 + 1 + 1 + 1, 0, none⟩) 3 3, .slice (some ⟨w0.heap.size + 1 + 1 + 1 + 1 + 1 + 1, 0, none⟩) 3 3, .slice (some ⟨w0.heap.size + 1 + 1 + 1 + 1 + 1 + 1 + 1, 0, none⟩) 3 3, .slice (some ⟨w0.heap.size + 1 + 1 + 1 + 1 + 1 + 1 + 1 + 1, 0, none⟩) 3 3] 55); simpa using q_
 have b9 : W.heap[w0.heap.size + 1 + 1 + 1 + 1 + 1 + 1 + 1 + 1 + 1]? = some (.cells #[.slice (some ⟨w0.heap.size + 1, 0, none⟩) 3 3, .slice (some ⟨w0.heap.size + 1 + 1, 0, none⟩) 3 3, .slice (some ⟨w0.heap.size + 1 + 1 + 1, 0, none⟩) 3 3, .slice (some ⟨w0.heap.size + 1 + 1 + 1 + 1, 0, none⟩) 3 3, .slice (some ⟨w0.heap.size + 1 + 1 + 1 + 1 + 1, 0, none⟩) 3 3, .slice (some ⟨w0.heap.size + 1 + 1 + 1 + 1 + 1 + 1, 0, none⟩) 3 3, .slice (some ⟨w0.heap.size + 1 + 1 + 1 + 1 + 1 + 1 + 1, 0, none⟩) 3 3, .slice (some ⟨w0.heap.size + 1 + 1 + 1 + 1 + 1 + 1 + 1 + 1, 0, none⟩) 3 3] 55 (0, 0)) := by rw [hW]; have q_ := blk_new (((((((((w0.alloc (.cells #[.bool true, .bool true] 4)).alloc (.cells #[.int .i64 0, .int .i64 0, .int .i64 0] 2)).alloc (.cells #[.int .i64 0, .int .i64 1, .int .i64 0] 2)).alloc (.cells #[.int .i64 0, .int .i64 3, .int .i64 0] 2)).alloc (.cells #[.int .i64 0, .int .i64 4, .int .i64 0] 2)).alloc (.cells #[.int .i64 0, .int .i64 2, .int .i64 1] 2)).alloc (.cells #[.int .i64 0, .int .i64 5, .int .i64 1] 2)).alloc (.cells #[.int .i64 1, .int .i64 2, .int .i64 1] 2)).alloc (.cells #[.int .i64 1, .int .i64 5, .int .i64 1] 2)) (.cells #[.slice (some ⟨w0.heap.size + 1, 0, none⟩) 3 3, .slice (some ⟨w0.heap.size + 1 + 1, 0, none⟩) 3 3, .slice (some ⟨w0.heap.size + 1 + 1 + 1, 0, none⟩) 3 3, .slice (some ⟨w0.heap.size + 1 + 1 + 1 + 1, 0, none⟩) 3 3, .slice (some ⟨w0.heap.size + 1 + 1 + 1 + 1 + 1, 0, none⟩) 3 3, .slice (some ⟨w0.heap.size + 1 + 1 + 1 + 1 + 1 + 1, 0, none⟩) 3 3, .slice (some ⟨w0.heap.size + 1 + 1 + 1 + 1 + 1 + 1 + 1, 0, none⟩) 3 3, .slice (some ⟨w0.heap.size + 1 + 1 + 1 + 1 + 1 + 1 + 1 + 1, 0, none⟩) 3 3] 55); simpa using q_
 have CB := Aside0.mk (C_boolsL (l := [true, true]) b0 (by decide))
 have c0 := C_intsL (l := [0, 0, 0]) b1 (by decide)
 have c1 := C_intsL (l := [0, 1, 0]) b2 (by decide)
 have c2 := C_intsL (l := [0, 3, 0]) b3 (by decide)
 have c3 := C_intsL (l := [0, 4, 0]) b4 (by decide)
 have c4 := C_intsL (l := [0, 2, 1]) b5 (by decide)
 have c5 := C_intsL (l := [0, 5, 1]) b6 (by decide)
 have c6 := C_intsL (l := [1, 2, 1]) b7 (by decide)
 have c7 := C_intsL (l := [1, 5, 1]) b8 (by decide)
 have CR := Aside0.mk (C_rowsL (ps := [(w0.heap.size + 1, [0, 0, 0]), (w0.heap.size + 1 + 1, [0, 1, 0]), (w0.heap.size + 1 + 1 + 1, [0, 3, 0]), (w0.heap.size + 1 + 1 + 1 + 1, [0, 4, 0]), (w0.heap.size + 1 + 1 + 1 + 1 + 1, [0, 2, 1]), (w0.heap.size + 1 + 1 + 1 + 1 + 1 + 1, [0, 5, 1]), (w0.heap.size + 1 + 1 + 1 + 1 + 1 + 1 + 1, [1, 2, 1]), (w0.heap.size + 1 + 1 + 1 + 1 + 1 + 1 + 1 + 1, [1, 5, 1])]) b9 (by simp) (by intro p hp; simp only [List.mem_cons, List.not_mem_nil, or_false] at hp; rcases hp with rfl|rfl|rfl|rfl|rfl|rfl|rfl|rfl <;> assumption))
 clear b0 b1 b2 b3 b4 b5 b6 b7 b8 b9 c0 c1 c2 c3 c4 c5 c6 c7
 have HB1 := Aside0.mk (below_then HB0'.out HB0'.out.size HBW.out)
 have HBR1 := Aside0.mk (blk_below HBR'.out HBW.out)
 clear HB0' HBR' HBW
 have HK := spec_l02Known.calls k _ _ [true, true] _ _ [[0, 0, 0], [0, 1, 0], [0, 3, 0], [0, 4, 0], [0, 2, 1], [0, 5, 1], [1, 2, 1], [1, 5, 1]] r1 r2 r3 r4 W CB.out (Nat.le_refl _) CR.out (Nat.le_refl _) H.out
 rw [hW] at HK
 have HKH := Aside0.mk HK
 have HWW := Aside0.mk hW
 clear HK hW
 go_wp2_with (fail)
 refine HKH.out.mono ?_
 clear HKH
 rintro e w2 ⟨v2, v3, rfl, hR0, hS0, hb0⟩
 have hR : Kd.R Kd.bool 4 w2 W.heap.size (fun _ => True) v2 r3 := by have e0_ := HWW.out; rw [e0_]; exact hR0
 have hS : Kd.S (Kd.slice 2 (Kd.int .i64)) 55 w2 W.heap.size (fun _ => True) v3 r4 := by have e0_ := HWW.out; rw [e0_]; exact hS0
 have hb : Below W.heap.size W w2 := by have e0_ := HWW.out; rw [e0_]; exact hb0
 clear hR0 hS0 hb0 HWW
 obtain ⟨B2, d2, hv2⟩ := Kd.R_slice hR
 subst hv2
 obtain ⟨B3, d3, hv3⟩ := Kd.S_slice hS
 subst hv3
 have HB2 := Aside0.mk (below_then HB1.out HB1.out.size hb)
 have HBR2 := Aside0.mk (blk_below HBR1.out hb)
 have HE := Aside0.mk (fill_endRL (w := w) hR hS HB1.out.size HB2.out HBR2.out (by omega) (.int .i64 r1) (.int .i64 r2))
 have n0 : w2.cell? ⟨w.heap.size, 0, none⟩ = some (.int .i64 0) := (blk_cell HBR2.out 0).trans rfl
 have n1 : w2.cell? ⟨w.heap.size, 1, none⟩ = some (.int .i64 0) := (blk_cell HBR2.out 1).trans rfl
 have n2 : w2.cell? ⟨w.heap.size, 2, none⟩ = some (.slice none 0 0) := (blk_cell HBR2.out 2).trans rfl
 have n3 : w2.cell? ⟨w.heap.size, 3, none⟩ = some (.slice none 0 0) := (blk_cell HBR2.out 3).trans rfl
 have f0 := blk_frozen HBR2.out 0
 have f1 := blk_frozen HBR2.out 1
 have f2 := blk_frozen HBR2.out 2
 have f3 := blk_frozen HBR2.out 3
 clear HB1 HBR1 HB2 HBR2 hR hS hb CB CR
 go_wp2
 refine bodyPost_ret (v := .tuple #[.agg #[.int .i64 r1, .int .i64 r2, .slice B2 r3.length d2, .slice B3 r4.length d3], .int .i64 0]) (by simp [results, Tryd.results36, go_sem, n0, n1, n2, n3]) rfl ⟨_, _, rfl, HE.out⟩
set_option maxHeartbeats 8000000 in
set_option maxRecDepth 100000 in
theorem spec_LengthRelation.calls (k : Nat) (a0 : Int) (r1 : Int) (r2 : Int) (r3 : List Bool) (r4 : List (List Int)) (r5 : Int) (w : World) (h : spec_LengthRelation.f k a0 = some (r1, r2, r3, r4, r5)) :
  Calls Tryd.prog 36 #[.int .i64 a0] w fun e w' => ∃ v2_ v3_ : Value, e = .returned (.tuple #[.agg #[.int .i64 r1, .int .i64 r2, v2_, v3_], .int .i64 r5]) ∧ Kd.R Kd.bool 4 w' w.heap.size (fun _ => True) v2_ r3 ∧ Kd.S (Kd.slice 2 (Kd.int .i64)) 55 w' w.heap.size (fun _ => True) v3_ r4 ∧ Below w.heap.size w w' := by
 unfold spec_LengthRelation.f at h
 by_cases c : 1 ≤ a0 ∧ a0 ≤ 3
 ·rw [if_pos c] at h
  obtain ⟨⟨q1, q2, q3, q4⟩, h1, h2⟩ := Option.bind_eq_some_iff.mp h
  simp only [Option.some.injEq, Prod.mk.injEq] at h2
  obtain ⟨rfl, rfl, rfl, rfl, rfl⟩ := h2
  have hc : a0 = 1 ∨ a0 = 2 ∨ a0 = 3 := by omega
  rcases hc with rfl|rfl|rfl
  ·exact lengthRel1 k _ _ _ _ w h1
  ·exact lengthRel2 k _ _ _ _ w h1
  ·exact lengthRel3 k _ _ _ _ w h1
 ·rw [if_neg c] at h
  simp only [Option.some.injEq, Prod.mk.injEq] at h
  obtain ⟨rfl, rfl, rfl, rfl, rfl⟩ := h
  have hwi := Aside0.mk (show spec_l00In.f a0 1 3 = some false by unfold spec_l00In.f; by_cases c1 : a0 ≥ 1; rw [if_pos c1, decide_eq_false (fun c2 => c ⟨c1, c2⟩)]; rw [if_neg c1])
  clear c
  have HB0 := Aside0.mk (below_alloc (Below.refl w.heap.size w) (.cells #[.int .i64 0, .int .i64 0, .slice none 0 0, .slice none 0 0] 28))
  have HBR := Aside0.mk (blk_new w (.cells #[.int .i64 0, .int .i64 0, .slice none 0 0, .slice none 0 0] 28))
  go_enter Tryd.func36, Tryd.ntmps36
  go_wp2_with (fail)
  generalize w.alloc _ = w0 at *
  with_reducible refine (spec_l00In.calls a0 1 3 false _ hwi.out).mono ?_
  rintro e w1 ⟨rfl, hd⟩
  have hb := hd.below
  have HB1 := Aside0.mk (below_then HB0.out HB0.out.size hb)
  have HBR1 := Aside0.mk (blk_below HBR.out hb)
  have HE := Aside0.mk (fill_endRL (w := w) (Kd.R_nil Kd.bool 4 w1 w1.heap.size (fun _ => True)) (Kd.S_nil (Kd.slice 2 (Kd.int .i64)) 55 w1 w1.heap.size (fun _ => True)) HB1.out.size HB1.out HBR1.out (by omega) (.int .i64 0) (.int .i64 0))
  have n0 : w1.cell? ⟨w.heap.size, 0, none⟩ = some (.int .i64 0) := (blk_cell HBR1.out 0).trans rfl
  have n1 : w1.cell? ⟨w.heap.size, 1, none⟩ = some (.int .i64 0) := (blk_cell HBR1.out 1).trans rfl
  have n2 : w1.cell? ⟨w.heap.size, 2, none⟩ = some (.slice none 0 0) := (blk_cell HBR1.out 2).trans rfl
  have n3 : w1.cell? ⟨w.heap.size, 3, none⟩ = some (.slice none 0 0) := (blk_cell HBR1.out 3).trans rfl
  have f0 := blk_frozen HBR1.out 0
  have f1 := blk_frozen HBR1.out 1
  have f2 := blk_frozen HBR1.out 2
  have f3 := blk_frozen HBR1.out 3
  clear HB0 HBR hd hb HB1 HBR1
  go_wp2
  refine bodyPost_ret (v := .tuple #[.agg #[.int .i64 0, .int .i64 0, .slice none 0 0, .slice none 0 0], .int .i64 2]) (by simp [results, Tryd.results36, go_sem, n0, n1, n2, n3]) rfl ⟨_, _, rfl, HE.out⟩
end Go.Proofs.YtbkcllfgolmloaaDoor.X

namespace Go.Proofs.YtbkcllfgolmloaaDoor.X
open Go Go.RowKit Go.Proofs.YtbkcllfgolmloaaDoorW.PrintWords Go.Proofs.YtbkcllfgolmloaaDoorW.PrintLast Go.Proofs.YtbkcllfgolmloaaDoorW.PrintMore
set_option linter.unusedVariables false
set_option linter.unusedSimpArgs false
open Classical in
noncomputable def laws_FnExactLengthRelation.f (k : Nat) (a0 : Int) : Option Bool := (spec_LengthRelation.f k a0).bind fun | (r0_0, r0_1, r0_2, r0_3, r1) => if impl_LengthRelation.f k a0 = some (r0_0, r0_1, r0_2, r0_3, r1) then (if laws_eqRelation.f k r0_0 r0_1 r0_2 r0_3 r0_0 r0_1 r0_2 r0_3 = some true then ((laws_markBoolS.f k r0_2 1).bind fun | (m4a, r0_2m) => (laws_markInt64SS.f k r0_3 m4a).bind fun | (m4, r0_3m) => if m4 < 0 then none else (if laws_heldRelation.f k r0_0 r0_1 r0_2m r0_3m 1 = some m4 then (some true) else none)) else none) else none
set_option maxHeartbeats 16000000 in
set_option maxRecDepth 100000 in
theorem laws_FnExactLengthRelation.main (k : Nat) (a0 : Int) (w : World) (htab : TabOK w)  (r0_0 : Int) (r0_1 : Int) (r0_2 : List Bool) (r0_3 : List (List Int)) (r1 : Int) (m4a : Int) (r0_2m : List Bool) (m4 : Int) (r0_3m : List (List Int)) (hS : spec_LengthRelation.f k a0 = some (r0_0, r0_1, r0_2, r0_3, r1)) (hI : impl_LengthRelation.f k a0 = some (r0_0, r0_1, r0_2, r0_3, r1)) (her : laws_eqRelation.f k r0_0 r0_1 r0_2 r0_3 r0_0 r0_1 r0_2 r0_3 = some true) (hm4a : laws_markBoolS.f k r0_2 1 = some (m4a, r0_2m)) (hm4b : laws_markInt64SS.f k r0_3 m4a = some (m4, r0_3m)) (hn4 : ¬ m4 < 0) (hh : laws_heldRelation.f k r0_0 r0_1 r0_2m r0_3m 1 = some m4)  :
  Calls Tryd.prog 10 #[.int .i64 a0] w fun e w' => e = .returned (.bool true) ∧ Below w.heap.size w w' := by
 have HS := Aside0.mk hS
 have HI := Aside0.mk hI
 have HER := Aside0.mk her
 have HM4A := Aside0.mk hm4a
 have HM4B := Aside0.mk hm4b
 have HN4 := Aside0.mk hn4
 have HH := Aside0.mk hh
 have HT := Aside0.mk htab
 clear hS hI her hm4a hm4b hn4 hh htab
 have HB_w := Aside0.mk (Below.refl w.heap.size w)
 go_enter Tryd.func10, Tryd.ntmps10
 go_wp2_with (fail)
 with_reducible refine (spec_LengthRelation.calls k a0 r0_0 r0_1 r0_2 r0_3 r1 _  HS.out).mono ?_
 rintro e w1 ⟨vy102, vy103, rfl, hy102, hy103, hb⟩
 obtain ⟨Ay102, cy102, hvy102⟩ := Kd.R_slice hy102
 subst hvy102
 obtain ⟨Ay103, cy103, hvy103⟩ := Kd.S_slice hy103
 subst hvy103
 have HZ_w1 := Aside0.mk (show w.heap.size + 0 ≤ w1.heap.size by have := hb.size; omega)
 have RIy10_w1 := Aside0.mk (RelOwn.mk_ (base := w.heap.size) HB_w.out.size hy102 hy103)
 have HB_w1 := Aside0.mk (below_then HB_w.out HB_w.out.size hb)
 clear HB_w
 clear hy102 hy103 hb
 go_upto_region 2 with (fail)
 have BX3_w2 := Aside0.mk (blk_new w1 (.cells #[.int .i64 r0_0, .int .i64 r0_1, .slice Ay102 r0_2.length cy102, .slice Ay103 r0_3.length cy103] 28))
 have hb := below_alloc (Below.refl w1.heap.size w1) (.cells #[.int .i64 r0_0, .int .i64 r0_1, .slice Ay102 r0_2.length cy102, .slice Ay103 r0_3.length cy103] 28)
 have HZ_w2 := Aside0.mk (show w1.heap.size + 1 ≤ (w1.alloc (.cells #[.int .i64 r0_0, .int .i64 r0_1, .slice Ay102 r0_2.length cy102, .slice Ay103 r0_3.length cy103] 28)).heap.size by simp)
 have HB_w2 := Aside0.mk (below_then HB_w1.out HB_w1.out.size hb)
 have RIy10_w2 := Aside0.mk (RIy10_w1.out.below hb)
 clear HB_w1 RIy10_w1
 clear hb
 generalize w1.alloc _ = w2 at *
 go_wp2_with (fail)
 with_reducible refine (impl_LengthRelation.calls k a0 r0_0 r0_1 r0_2 r0_3 r1 _ (tab_below HT.out HB_w2.out)  HI.out).mono ?_
 rintro e w3 ⟨vy202, vy203, rfl, hy202, hy203, hb⟩
 obtain ⟨Ay202, cy202, hvy202⟩ := Kd.R_slice hy202
 subst hvy202
 obtain ⟨Ay203, cy203, hvy203⟩ := Kd.S_slice hy203
 subst hvy203
 have HZ_w3 := Aside0.mk (show w2.heap.size + 0 ≤ w3.heap.size by have := hb.size; omega)
 have RIy20_w3 := Aside0.mk (RelOwn.mk_ (base := w.heap.size) HB_w2.out.size hy202 hy203)
 have HB_w3 := Aside0.mk (below_then HB_w2.out HB_w2.out.size hb)
 have RIy10_w3 := Aside0.mk (RIy10_w2.out.below hb)
 have BX3_w3 := Aside0.mk (blk_below BX3_w2.out hb)
 clear HB_w2 RIy10_w2 BX3_w2
 clear hy202 hy203 hb
 go_upto_region 3 with (fail)
 have BX5_w4 := Aside0.mk (blk_new w3 (.cells #[.int .i64 r0_0, .int .i64 r0_1, .slice Ay202 r0_2.length cy202, .slice Ay203 r0_3.length cy203] 28))
 have hb := below_alloc (Below.refl w3.heap.size w3) (.cells #[.int .i64 r0_0, .int .i64 r0_1, .slice Ay202 r0_2.length cy202, .slice Ay203 r0_3.length cy203] 28)
 have HZ_w4 := Aside0.mk (show w3.heap.size + 1 ≤ (w3.alloc (.cells #[.int .i64 r0_0, .int .i64 r0_1, .slice Ay202 r0_2.length cy202, .slice Ay203 r0_3.length cy203] 28)).heap.size by simp)
 have HB_w4 := Aside0.mk (below_then HB_w3.out HB_w3.out.size hb)
 have RIy10_w4 := Aside0.mk (RIy10_w3.out.below hb)
 have BX3_w4 := Aside0.mk (blk_below BX3_w3.out hb)
 have RIy20_w4 := Aside0.mk (RIy20_w3.out.below hb)
 clear HB_w3 RIy10_w3 BX3_w3 RIy20_w3
 clear hb
 generalize w3.alloc _ = w4 at *
 have hx0_0 : w4.cell? ⟨w3.heap.size, 0, none⟩ = some (.int .i64 r0_0) := (blk_cell BX5_w4.out 0).trans rfl
 have hx0_1 : w4.cell? ⟨w3.heap.size, 1, none⟩ = some (.int .i64 r0_1) := (blk_cell BX5_w4.out 1).trans rfl
 have hx0_2 : w4.cell? ⟨w3.heap.size, 2, none⟩ = some (.slice Ay202 r0_2.length cy202) := (blk_cell BX5_w4.out 2).trans rfl
 have hx0_3 : w4.cell? ⟨w3.heap.size, 3, none⟩ = some (.slice Ay203 r0_3.length cy203) := (blk_cell BX5_w4.out 3).trans rfl
 have hx1_0 : w4.cell? ⟨w1.heap.size, 0, none⟩ = some (.int .i64 r0_0) := (blk_cell BX3_w4.out 0).trans rfl
 have hx1_1 : w4.cell? ⟨w1.heap.size, 1, none⟩ = some (.int .i64 r0_1) := (blk_cell BX3_w4.out 1).trans rfl
 have hx1_2 : w4.cell? ⟨w1.heap.size, 2, none⟩ = some (.slice Ay102 r0_2.length cy102) := (blk_cell BX3_w4.out 2).trans rfl
 have hx1_3 : w4.cell? ⟨w1.heap.size, 3, none⟩ = some (.slice Ay103 r0_3.length cy103) := (blk_cell BX3_w4.out 3).trans rfl
 go_wp2_with (fail)
 clear hx0_0 hx0_1 hx0_2 hx0_3 hx1_0 hx1_1 hx1_2 hx1_3
 with_reducible refine (laws_eqRelation.calls k r0_0 r0_1 _ _ r0_2 _ _ r0_3 r0_0 r0_1 _ _ r0_2 _ _ r0_3 true _ RIy20_w4.out.reads.1 RIy20_w4.out.reads.2.1 RIy20_w4.out.reads.2.2.1 RIy20_w4.out.reads.2.2.2 RIy10_w4.out.reads.1 RIy10_w4.out.reads.2.1 RIy10_w4.out.reads.2.2.1 RIy10_w4.out.reads.2.2.2 HER.out).mono ?_
 rintro e w5 ⟨rfl, hb⟩
 have HZ_w5 := Aside0.mk (show w4.heap.size + 0 ≤ w5.heap.size by have := hb.size; omega)
 have HB_w5 := Aside0.mk (below_then HB_w4.out HB_w4.out.size hb)
 have RIy10_w5 := Aside0.mk (RIy10_w4.out.below hb)
 have BX3_w5 := Aside0.mk (blk_below BX3_w4.out hb)
 have RIy20_w5 := Aside0.mk (RIy20_w4.out.below hb)
 have BX5_w5 := Aside0.mk (blk_below BX5_w4.out hb)
 clear HB_w4 RIy10_w4 BX3_w4 RIy20_w4 BX5_w4
 clear hb
 have hx0_0 : w5.cell? ⟨w3.heap.size, 0, none⟩ = some (.int .i64 r0_0) := (blk_cell BX5_w5.out 0).trans rfl
 have hx0_1 : w5.cell? ⟨w3.heap.size, 1, none⟩ = some (.int .i64 r0_1) := (blk_cell BX5_w5.out 1).trans rfl
 have hx0_2 : w5.cell? ⟨w3.heap.size, 2, none⟩ = some (.slice Ay202 r0_2.length cy202) := (blk_cell BX5_w5.out 2).trans rfl
 have hx0_3 : w5.cell? ⟨w3.heap.size, 3, none⟩ = some (.slice Ay203 r0_3.length cy203) := (blk_cell BX5_w5.out 3).trans rfl
 go_wp2_with (fail)
 clear hx0_0 hx0_1 hx0_2 hx0_3
 with_reducible refine (RelOwn.mark k _ _ _ _ r0_2 r0_3 1 m4a m4 r0_2m r0_3m w _ HB_w5.out RIy20_w5.out (by have := HZ_w1.out; have := HZ_w2.out; have := HZ_w3.out; have := HZ_w4.out; have := HZ_w5.out; omega) HM4A.out HM4B.out).mono ?_
 rintro e w6 ⟨rfl, hI_, hB_, hK_⟩
 have HZ_w6 := Aside0.mk (show w5.heap.size + 0 ≤ w6.heap.size by have := hK_.1; omega)
 have RIy10_w6 := Aside0.mk (RIy10_w5.out.kept hK_ (fun k_ h1_ h2_ => by have := (And.intro HZ_w1.out (And.intro HZ_w2.out (And.intro HZ_w3.out (And.intro HZ_w4.out (And.intro HZ_w5.out trivial))))); omega))
 have BX3_w6 := Aside0.mk ((hK_.2 _ (by have q_ := blk_lt BX3_w5.out; exact q_) (by have := (And.intro HZ_w1.out (And.intro HZ_w2.out (And.intro HZ_w3.out (And.intro HZ_w4.out (And.intro HZ_w5.out trivial))))); omega)).trans BX3_w5.out)
 have BX5_w6 := Aside0.mk ((hK_.2 _ (by have q_ := blk_lt BX5_w5.out; exact q_) (by have := (And.intro HZ_w1.out (And.intro HZ_w2.out (And.intro HZ_w3.out (And.intro HZ_w4.out (And.intro HZ_w5.out trivial))))); omega)).trans BX5_w5.out)
 clear RIy10_w5 BX3_w5 BX5_w5
 have HB_w6 := Aside0.mk hB_
 clear HB_w5 hB_
 have RIy20_w6 := Aside0.mk hI_
 clear hI_ hK_ RIy20_w5
 have hd4 : decide (m4 < 0) = false := decide_eq_false (by have q_ := HN4.out; omega)
 have hx0_0 : w6.cell? ⟨w3.heap.size, 0, none⟩ = some (.int .i64 r0_0) := (blk_cell BX5_w6.out 0).trans rfl
 have hx0_1 : w6.cell? ⟨w3.heap.size, 1, none⟩ = some (.int .i64 r0_1) := (blk_cell BX5_w6.out 1).trans rfl
 have hx0_2 : w6.cell? ⟨w3.heap.size, 2, none⟩ = some (.slice Ay202 r0_2.length cy202) := (blk_cell BX5_w6.out 2).trans rfl
 have hx0_3 : w6.cell? ⟨w3.heap.size, 3, none⟩ = some (.slice Ay203 r0_3.length cy203) := (blk_cell BX5_w6.out 3).trans rfl
 go_wp2_with (fail)
 clear hx0_0 hx0_1 hx0_2 hx0_3
 obtain ⟨e2_, e3_, q1_, q2_, q3_, q4_⟩ := RIy20_w6.out.reads'
 have hq_ := laws_heldRelation.calls k r0_0 r0_1 _ _ r0_2m _ _ r0_3m 1 m4 _ q1_ q2_ q3_ q4_ HH.out
 rw [← e2_, ← e3_] at hq_
 clear e2_ e3_ q1_ q2_ q3_ q4_
 with_reducible refine hq_.mono ?_
 clear hq_
 rintro e w7 ⟨rfl, hb⟩
 have HZ_w7 := Aside0.mk (show w6.heap.size + 0 ≤ w7.heap.size by have := hb.size; omega)
 have HB_w7 := Aside0.mk (below_then HB_w6.out HB_w6.out.size hb)
 have RIy10_w7 := Aside0.mk (RIy10_w6.out.below hb)
 have BX3_w7 := Aside0.mk (blk_below BX3_w6.out hb)
 have BX5_w7 := Aside0.mk (blk_below BX5_w6.out hb)
 have RIy20_w7 := Aside0.mk (RIy20_w6.out.below hb)
 clear HB_w6 RIy10_w6 BX3_w6 BX5_w6 RIy20_w6
 clear hb
 go_wp2_with (fail)
 with_reducible refine (impl_LengthRelation.calls k a0 r0_0 r0_1 r0_2 r0_3 r1 _ (tab_below HT.out HB_w7.out)  HI.out).mono ?_
 rintro e w8 ⟨vy602, vy603, rfl, hy602, hy603, hb⟩
 obtain ⟨Ay602, cy602, hvy602⟩ := Kd.R_slice hy602
 subst hvy602
 obtain ⟨Ay603, cy603, hvy603⟩ := Kd.S_slice hy603
 subst hvy603
 have HZ_w8 := Aside0.mk (show w7.heap.size + 0 ≤ w8.heap.size by have := hb.size; omega)
 have RIy60_w8 := Aside0.mk (RelOwn.mk_ (base := w.heap.size) HB_w7.out.size hy602 hy603)
 have HB_w8 := Aside0.mk (below_then HB_w7.out HB_w7.out.size hb)
 have RIy10_w8 := Aside0.mk (RIy10_w7.out.below hb)
 have BX3_w8 := Aside0.mk (blk_below BX3_w7.out hb)
 have BX5_w8 := Aside0.mk (blk_below BX5_w7.out hb)
 have RIy20_w8 := Aside0.mk (RIy20_w7.out.below hb)
 clear HB_w7 RIy10_w7 BX3_w7 BX5_w7 RIy20_w7
 clear hy602 hy603 hb
 go_upto_region 14 with (fail)
 have BX9_w9 := Aside0.mk (blk_new w8 (.cells #[.int .i64 r0_0, .int .i64 r0_1, .slice Ay602 r0_2.length cy602, .slice Ay603 r0_3.length cy603] 28))
 have hb := below_alloc (Below.refl w8.heap.size w8) (.cells #[.int .i64 r0_0, .int .i64 r0_1, .slice Ay602 r0_2.length cy602, .slice Ay603 r0_3.length cy603] 28)
 have HZ_w9 := Aside0.mk (show w8.heap.size + 1 ≤ (w8.alloc (.cells #[.int .i64 r0_0, .int .i64 r0_1, .slice Ay602 r0_2.length cy602, .slice Ay603 r0_3.length cy603] 28)).heap.size by simp)
 have HB_w9 := Aside0.mk (below_then HB_w8.out HB_w8.out.size hb)
 have RIy10_w9 := Aside0.mk (RIy10_w8.out.below hb)
 have BX3_w9 := Aside0.mk (blk_below BX3_w8.out hb)
 have BX5_w9 := Aside0.mk (blk_below BX5_w8.out hb)
 have RIy20_w9 := Aside0.mk (RIy20_w8.out.below hb)
 have RIy60_w9 := Aside0.mk (RIy60_w8.out.below hb)
 clear HB_w8 RIy10_w8 BX3_w8 BX5_w8 RIy20_w8 RIy60_w8
 clear hb
 generalize w8.alloc _ = w9 at *
 have hx0_0 : w9.cell? ⟨w8.heap.size, 0, none⟩ = some (.int .i64 r0_0) := (blk_cell BX9_w9.out 0).trans rfl
 have hx0_1 : w9.cell? ⟨w8.heap.size, 1, none⟩ = some (.int .i64 r0_1) := (blk_cell BX9_w9.out 1).trans rfl
 have hx0_2 : w9.cell? ⟨w8.heap.size, 2, none⟩ = some (.slice Ay602 r0_2.length cy602) := (blk_cell BX9_w9.out 2).trans rfl
 have hx0_3 : w9.cell? ⟨w8.heap.size, 3, none⟩ = some (.slice Ay603 r0_3.length cy603) := (blk_cell BX9_w9.out 3).trans rfl
 have hx1_0 : w9.cell? ⟨w1.heap.size, 0, none⟩ = some (.int .i64 r0_0) := (blk_cell BX3_w9.out 0).trans rfl
 have hx1_1 : w9.cell? ⟨w1.heap.size, 1, none⟩ = some (.int .i64 r0_1) := (blk_cell BX3_w9.out 1).trans rfl
 have hx1_2 : w9.cell? ⟨w1.heap.size, 2, none⟩ = some (.slice Ay102 r0_2.length cy102) := (blk_cell BX3_w9.out 2).trans rfl
 have hx1_3 : w9.cell? ⟨w1.heap.size, 3, none⟩ = some (.slice Ay103 r0_3.length cy103) := (blk_cell BX3_w9.out 3).trans rfl
 go_wp2_with (fail)
 clear hx0_0 hx0_1 hx0_2 hx0_3 hx1_0 hx1_1 hx1_2 hx1_3
 with_reducible refine (laws_eqRelation.calls k r0_0 r0_1 _ _ r0_2 _ _ r0_3 r0_0 r0_1 _ _ r0_2 _ _ r0_3 true _ RIy60_w9.out.reads.1 RIy60_w9.out.reads.2.1 RIy60_w9.out.reads.2.2.1 RIy60_w9.out.reads.2.2.2 RIy10_w9.out.reads.1 RIy10_w9.out.reads.2.1 RIy10_w9.out.reads.2.2.1 RIy10_w9.out.reads.2.2.2 HER.out).mono ?_
 rintro e w10 ⟨rfl, hb⟩
 have HZ_w10 := Aside0.mk (show w9.heap.size + 0 ≤ w10.heap.size by have := hb.size; omega)
 have HB_w10 := Aside0.mk (below_then HB_w9.out HB_w9.out.size hb)
 have RIy10_w10 := Aside0.mk (RIy10_w9.out.below hb)
 have BX3_w10 := Aside0.mk (blk_below BX3_w9.out hb)
 have BX5_w10 := Aside0.mk (blk_below BX5_w9.out hb)
 have RIy20_w10 := Aside0.mk (RIy20_w9.out.below hb)
 have RIy60_w10 := Aside0.mk (RIy60_w9.out.below hb)
 have BX9_w10 := Aside0.mk (blk_below BX9_w9.out hb)
 clear HB_w9 RIy10_w9 BX3_w9 BX5_w9 RIy20_w9 RIy60_w9 BX9_w9
 clear hb
 have hx0_0 : w10.cell? ⟨w3.heap.size, 0, none⟩ = some (.int .i64 r0_0) := (blk_cell BX5_w10.out 0).trans rfl
 have hx0_1 : w10.cell? ⟨w3.heap.size, 1, none⟩ = some (.int .i64 r0_1) := (blk_cell BX5_w10.out 1).trans rfl
 have hx0_2 : w10.cell? ⟨w3.heap.size, 2, none⟩ = some (.slice Ay202 r0_2.length cy202) := (blk_cell BX5_w10.out 2).trans rfl
 have hx0_3 : w10.cell? ⟨w3.heap.size, 3, none⟩ = some (.slice Ay203 r0_3.length cy203) := (blk_cell BX5_w10.out 3).trans rfl
 go_wp2_with (fail)
 clear hx0_0 hx0_1 hx0_2 hx0_3
 obtain ⟨e2_, e3_, q1_, q2_, q3_, q4_⟩ := RIy20_w10.out.reads'
 have hq_ := laws_heldRelation.calls k r0_0 r0_1 _ _ r0_2m _ _ r0_3m 1 m4 _ q1_ q2_ q3_ q4_ HH.out
 rw [← e2_, ← e3_] at hq_
 clear e2_ e3_ q1_ q2_ q3_ q4_
 with_reducible refine hq_.mono ?_
 clear hq_
 rintro e w11 ⟨rfl, hb⟩
 have HZ_w11 := Aside0.mk (show w10.heap.size + 0 ≤ w11.heap.size by have := hb.size; omega)
 have HB_w11 := Aside0.mk (below_then HB_w10.out HB_w10.out.size hb)
 have RIy10_w11 := Aside0.mk (RIy10_w10.out.below hb)
 have BX3_w11 := Aside0.mk (blk_below BX3_w10.out hb)
 have BX5_w11 := Aside0.mk (blk_below BX5_w10.out hb)
 have RIy20_w11 := Aside0.mk (RIy20_w10.out.below hb)
 have RIy60_w11 := Aside0.mk (RIy60_w10.out.below hb)
 have BX9_w11 := Aside0.mk (blk_below BX9_w10.out hb)
 clear HB_w10 RIy10_w10 BX3_w10 BX5_w10 RIy20_w10 RIy60_w10 BX9_w10
 clear hb
 go_wp2
 go_ret
 exact ⟨rfl, HB_w11.out⟩
theorem laws_FnExactLengthRelation.calls (k : Nat) (a0 : Int) (w : World) (htab : TabOK w)  (h : laws_FnExactLengthRelation.f k a0 = some true) :
  Calls Tryd.prog 10 #[.int .i64 a0] w fun e w' => e = .returned (.bool true) ∧ Below w.heap.size w w' := by
 unfold laws_FnExactLengthRelation.f at h
 obtain ⟨⟨r0_0, r0_1, r0_2, r0_3, r1⟩, hS, h⟩ := Option.bind_eq_some_iff.mp h
 dsimp only at h
 by_cases hI : impl_LengthRelation.f k a0 = some (r0_0, r0_1, r0_2, r0_3, r1)
 case neg => rw [if_neg hI] at h; cases h
 rw [if_pos hI] at h
 by_cases her : laws_eqRelation.f k r0_0 r0_1 r0_2 r0_3 r0_0 r0_1 r0_2 r0_3 = some true
 case neg => rw [if_neg her] at h; cases h
 rw [if_pos her] at h
 obtain ⟨⟨m4a, r0_2m⟩, hm4a, h⟩ := Option.bind_eq_some_iff.mp h
 dsimp only at h
 obtain ⟨⟨m4, r0_3m⟩, hm4b, h⟩ := Option.bind_eq_some_iff.mp h
 dsimp only at h
 by_cases hn4 : m4 < 0
 case pos => rw [if_pos hn4] at h; cases h
 rw [if_neg hn4] at h
 by_cases hh : laws_heldRelation.f k r0_0 r0_1 r0_2m r0_3m 1 = some m4
 case neg => rw [if_neg hh] at h; cases h
 rw [if_pos hh] at h
 exact laws_FnExactLengthRelation.main k a0 w htab  r0_0 r0_1 r0_2 r0_3 r1 m4a r0_2m m4 r0_3m hS hI her hm4a hm4b hn4 hh 
end Go.Proofs.YtbkcllfgolmloaaDoor.X

namespace Go.Proofs.YtbkcllfgolmloaaDoor.Pure
open Go.RowKit Go.Proofs.YtbkcllfgolmloaaDoor.X Go.Proofs.YtbkcllfgolmloaaDoorW.PrintWords Go.Proofs.YtbkcllfgolmloaaDoorW.PrintLast
set_option linter.unusedVariables false
set_option linter.unusedSimpArgs false
instance decTail : DecidableEq (List Bool × List (List Int) × Int) := inferInstance
instance decRel5 : DecidableEq (Int × Int × List Bool × List (List Int) × Int) := fun a b => @instDecidableEqProd _ _ inferInstance (fun x y => @instDecidableEqProd _ _ inferInstance decTail x y) a b
def relLengthRelationA1 : Int × Int × List Bool × List (List Int) × Int := (impl_LengthRelation.f 2000 1).getD (0, 0, [], [], 0)
set_option maxRecDepth 100000 in
theorem lawLengthRelationA1 : laws_FnExactLengthRelation.f 2000 1 = some true := by
 have hI : impl_LengthRelation.f 2000 1 = some (relLengthRelationA1.1, relLengthRelationA1.2.1, relLengthRelationA1.2.2.1, relLengthRelationA1.2.2.2.1, relLengthRelationA1.2.2.2.2) := by decide +kernel
 have hS : spec_LengthRelation.f 2000 1 = some (relLengthRelationA1.1, relLengthRelationA1.2.1, relLengthRelationA1.2.2.1, relLengthRelationA1.2.2.2.1, relLengthRelationA1.2.2.2.2) := by decide +kernel
 have hE : laws_eqRelation.f 2000 relLengthRelationA1.1 relLengthRelationA1.2.1 relLengthRelationA1.2.2.1 relLengthRelationA1.2.2.2.1 relLengthRelationA1.1 relLengthRelationA1.2.1 relLengthRelationA1.2.2.1 relLengthRelationA1.2.2.2.1 = some true := by decide +kernel
 have h1 : laws_markBoolS.f 2000 relLengthRelationA1.2.2.1 1 = some (((1 + relLengthRelationA1.2.2.1.length : Nat) : Int), mB 1 relLengthRelationA1.2.2.1.length) := by decide +kernel
 have h2 : laws_markInt64SS.f 2000 relLengthRelationA1.2.2.2.1 ((1 + relLengthRelationA1.2.2.1.length : Nat) : Int) = some (((1 + relLengthRelationA1.2.2.1.length + sumL relLengthRelationA1.2.2.2.1 : Nat) : Int), mII (1 + relLengthRelationA1.2.2.1.length) relLengthRelationA1.2.2.2.1) := by decide +kernel
 have h3 : laws_heldRelation.f 2000 relLengthRelationA1.1 relLengthRelationA1.2.1 (mB 1 relLengthRelationA1.2.2.1.length) (mII (1 + relLengthRelationA1.2.2.1.length) relLengthRelationA1.2.2.2.1) 1 = some ((1 + relLengthRelationA1.2.2.1.length + sumL relLengthRelationA1.2.2.2.1 : Nat) : Int) := by decide +kernel
 unfold laws_FnExactLengthRelation.f
 rw [hS]
 simp only [Option.bind_some]
 rw [if_pos hI, if_pos hE, h1]
 simp only [Option.bind_some]
 rw [h2]
 simp only [Option.bind_some]
 rw [if_neg (by omega), if_pos h3]
def relLengthRelationA2 : Int × Int × List Bool × List (List Int) × Int := (impl_LengthRelation.f 2000 2).getD (0, 0, [], [], 0)
set_option maxRecDepth 100000 in
theorem lawLengthRelationA2 : laws_FnExactLengthRelation.f 2000 2 = some true := by
 have hI : impl_LengthRelation.f 2000 2 = some (relLengthRelationA2.1, relLengthRelationA2.2.1, relLengthRelationA2.2.2.1, relLengthRelationA2.2.2.2.1, relLengthRelationA2.2.2.2.2) := by decide +kernel
 have hS : spec_LengthRelation.f 2000 2 = some (relLengthRelationA2.1, relLengthRelationA2.2.1, relLengthRelationA2.2.2.1, relLengthRelationA2.2.2.2.1, relLengthRelationA2.2.2.2.2) := by decide +kernel
 have hE : laws_eqRelation.f 2000 relLengthRelationA2.1 relLengthRelationA2.2.1 relLengthRelationA2.2.2.1 relLengthRelationA2.2.2.2.1 relLengthRelationA2.1 relLengthRelationA2.2.1 relLengthRelationA2.2.2.1 relLengthRelationA2.2.2.2.1 = some true := by decide +kernel
 have h1 : laws_markBoolS.f 2000 relLengthRelationA2.2.2.1 1 = some (((1 + relLengthRelationA2.2.2.1.length : Nat) : Int), mB 1 relLengthRelationA2.2.2.1.length) := by decide +kernel
 have h2 : laws_markInt64SS.f 2000 relLengthRelationA2.2.2.2.1 ((1 + relLengthRelationA2.2.2.1.length : Nat) : Int) = some (((1 + relLengthRelationA2.2.2.1.length + sumL relLengthRelationA2.2.2.2.1 : Nat) : Int), mII (1 + relLengthRelationA2.2.2.1.length) relLengthRelationA2.2.2.2.1) := by decide +kernel
 have h3 : laws_heldRelation.f 2000 relLengthRelationA2.1 relLengthRelationA2.2.1 (mB 1 relLengthRelationA2.2.2.1.length) (mII (1 + relLengthRelationA2.2.2.1.length) relLengthRelationA2.2.2.2.1) 1 = some ((1 + relLengthRelationA2.2.2.1.length + sumL relLengthRelationA2.2.2.2.1 : Nat) : Int) := by decide +kernel
 unfold laws_FnExactLengthRelation.f
 rw [hS]
 simp only [Option.bind_some]
 rw [if_pos hI, if_pos hE, h1]
 simp only [Option.bind_some]
 rw [h2]
 simp only [Option.bind_some]
 rw [if_neg (by omega), if_pos h3]
def relLengthRelationA3 : Int × Int × List Bool × List (List Int) × Int := (impl_LengthRelation.f 2000 3).getD (0, 0, [], [], 0)
set_option maxRecDepth 100000 in
theorem lawLengthRelationA3 : laws_FnExactLengthRelation.f 2000 3 = some true := by
 have hI : impl_LengthRelation.f 2000 3 = some (relLengthRelationA3.1, relLengthRelationA3.2.1, relLengthRelationA3.2.2.1, relLengthRelationA3.2.2.2.1, relLengthRelationA3.2.2.2.2) := by decide +kernel
 have hS : spec_LengthRelation.f 2000 3 = some (relLengthRelationA3.1, relLengthRelationA3.2.1, relLengthRelationA3.2.2.1, relLengthRelationA3.2.2.2.1, relLengthRelationA3.2.2.2.2) := by decide +kernel
 have hE : laws_eqRelation.f 2000 relLengthRelationA3.1 relLengthRelationA3.2.1 relLengthRelationA3.2.2.1 relLengthRelationA3.2.2.2.1 relLengthRelationA3.1 relLengthRelationA3.2.1 relLengthRelationA3.2.2.1 relLengthRelationA3.2.2.2.1 = some true := by decide +kernel
 have h1 : laws_markBoolS.f 2000 relLengthRelationA3.2.2.1 1 = some (((1 + relLengthRelationA3.2.2.1.length : Nat) : Int), mB 1 relLengthRelationA3.2.2.1.length) := by decide +kernel
 have h2 : laws_markInt64SS.f 2000 relLengthRelationA3.2.2.2.1 ((1 + relLengthRelationA3.2.2.1.length : Nat) : Int) = some (((1 + relLengthRelationA3.2.2.1.length + sumL relLengthRelationA3.2.2.2.1 : Nat) : Int), mII (1 + relLengthRelationA3.2.2.1.length) relLengthRelationA3.2.2.2.1) := by decide +kernel
 have h3 : laws_heldRelation.f 2000 relLengthRelationA3.1 relLengthRelationA3.2.1 (mB 1 relLengthRelationA3.2.2.1.length) (mII (1 + relLengthRelationA3.2.2.1.length) relLengthRelationA3.2.2.2.1) 1 = some ((1 + relLengthRelationA3.2.2.1.length + sumL relLengthRelationA3.2.2.2.1 : Nat) : Int) := by decide +kernel
 unfold laws_FnExactLengthRelation.f
 rw [hS]
 simp only [Option.bind_some]
 rw [if_pos hI, if_pos hE, h1]
 simp only [Option.bind_some]
 rw [h2]
 simp only [Option.bind_some]
 rw [if_neg (by omega), if_pos h3]
theorem FnExactLengthRelation (a0 : Int) {p : Prop} (_ : p) : ∃ k, laws_FnExactLengthRelation.f k a0 = some true := by
 by_cases c : 1 ≤ a0 ∧ a0 ≤ 3
 ·have hc : a0 = 1 ∨ a0 = 2 ∨ a0 = 3 := by omega
  rcases hc with rfl|rfl|rfl
  ·exact ⟨_, lawLengthRelationA1⟩
  ·exact ⟨_, lawLengthRelationA2⟩
  ·exact ⟨_, lawLengthRelationA3⟩
 ·have hI : impl_LengthRelation.f 200 a0 = some (0, 0, [], [], 2) := if_neg c
  have hS : spec_LengthRelation.f 200 a0 = some (0, 0, [], [], 2) := by
   unfold spec_LengthRelation.f
   exact if_neg c
  have hE : laws_eqRelation.f 200 0 0 [] [] 0 0 [] [] = some true := by decide +kernel
  have h1 : laws_markBoolS.f 200 [] 1 = some (1, []) := by decide +kernel
  have h2 : laws_markInt64SS.f 200 [] 1 = some (1, []) := by decide +kernel
  have h3 : laws_heldRelation.f 200 0 0 [] [] 1 = some 1 := by decide +kernel
  refine ⟨200, ?_⟩
  unfold laws_FnExactLengthRelation.f
  rw [hS]
  simp only [Option.bind_some]
  rw [if_pos hI, if_pos hE, h1]
  simp only [Option.bind_some]
  rw [h2]
  simp only [Option.bind_some]
  rw [if_neg (by omega), if_pos h3]
end Go.Proofs.YtbkcllfgolmloaaDoor.Pure

-- Written by a program of this claim's author.
namespace Go.Proofs.YtbkcllfgolmloaaDoor.fnExactLengthRelation
open Go.ChangeShapes Go.WideShapes Go.ChangeAt Go.RowKit
open Go.ChangeMaps (open_string shut_string)
set_option linter.unusedVariables false
theorem own : ownKnob Tryd.prog.godebug = none := by kernel_rfl
set_option maxRecDepth 100000 in
theorem lifted (os : Os) (started : os.Started) (H : Type) (enc : TypeId × Value → H) :
  ReturnsInHanded {} Tryd.checked os 10 .any (fun w args => (Rows.fnExactLengthRelationSpec.pre enc Tryd.prog Tryd.f10 Rows.fnExactLengthRelationRow.domain false w args ∧ laidMet Tryd.prog X.laid3 w) ∧ sizedMet enc Tryd.prog Tryd.f10 (OpenSpec.ofChange Rows.fnExactLengthRelationSpec) false w args) (Rows.fnExactLengthRelationSpec.post enc Tryd.prog Tryd.f10 false true false false) := by
 refine returnsInHanded_of_change_and (C := Tryd.checked) (X := fun w _ => laidMet Tryd.prog X.laid3 w) (fun _ _ _ hh h => h.of_heap hh) own started (by kernel_rfl) Tryd.func10
  (ChangeSpec.witness_at (enc := enc) (C := Tryd.checked) (os := os) (X := fun w _ => laidMet Tryd.prog X.laid3 w) false (X.laidWorld os) #[.int .i64 0] 8 rfl (by kernel_rfl) (by kernel_rfl) (by kernel_rfl) (by kernel_rfl) (by kernel_rfl) (X.laidWorld_met os _)) ?_
 intro W base args ds gs before hval0 hW _ hsz0 hL _
 have hval : ∀ (j : Nat) t v, Tryd.f10.params[j]? = some t → args[j]? = some v → Value.okWide Tryd.prog W .any base t v := hval0
 have hW' := hW
 obtain ⟨p, q, hA0, hV, rfl, hfz, hnd⟩ := hW
 have hA : DataW.TrodAll enc Tryd.prog W 0 (fun _ => true) true Tryd.f10.params.toList args.toList ds p := hA0
 rw [Tryd.params10] at hA hval
 obtain ⟨v0, vs0, d0, ds0, p0, q0, hargs, rfl, rfl, h0, r0⟩ := trodAll_cons hA
 obtain ⟨rfl, rfl, rfl⟩ := trodAll_nil r0
 obtain rfl : args = #[v0] := by cases args; simp_all
 obtain ⟨rfl, rfl⟩ := trodVars_none hV
 obtain ⟨a0, rfl, rfl, rfl, w0⟩ := open_int Tryd.underlying2 (hval 0 2 v0 rfl rfl) h0
 clear hA0 hval0 hsz0
 obtain ⟨n_, hn_⟩ := Pure.FnExactLengthRelation a0 w0
 refine (X.laws_FnExactLengthRelation.calls n_ a0 W (X.tabOK_of hL)  hn_).mono fun e W' ⟨he, bel⟩ => ?_
 subst he
 exact ⟨_, rfl, _, _, _, [], _, [], hW', trodAll_mk1 (shut_bool Tryd.underlying4 _), (trodAll_cons_mk (shut_int Tryd.underlying2 w0) trodAll_mk0), rfl, bel.frame _, fun h => by cases h⟩
theorem over : Rows.fnExactLengthRelationRow.holds Tryd.pinned (OpenSpec.ofChange Rows.fnExactLengthRelationSpec) :=
 OpenClaim.holds_of_wide 10 Tryd.f10 rfl rfl rfl rfl rfl rfl rfl ⟨rfl, rfl, rfl, rfl, rfl⟩ rfl rfl rfl rfl rfl (by kernel_rfl) Tryd.func10 (by kernel_rfl)
  (of_decide_eq_true (by kernel_rfl)) (by unfold Func.isWrapper; first | (rw [if_pos (by decide +kernel)]; kernel_rfl) | (rw [if_neg (by decide +kernel)]; exact ⟨rfl, rfl⟩))
  (fun os started H enc _ => lifted os started H enc)
set_option maxRecDepth 100000 in
theorem proved : Rows.FnExactLengthRelationCardSaid :=
 Claim7.holds_tied_plain_at .later [] Rows.fnExactLengthRelationCard.laidKinds true (true, "f51c4824e2bc35f367135000083f29c5ec74c549effb7d54f23c468ffd466c0d") false
  over (fun _ h => by cases h) (by kernel_rfl) (fun _ h => by cases h) fnExactLengthRelation_row_tie rfl ⟨rfl, rfl⟩ (by kernel_rfl) rfl
  (fun f fn hf hfn => by
   obtain rfl : f = 10 := Option.some.inj ((show Tryd.prog.funcNamed "loop.example/g01168/laws.FnExactLengthRelation" = some 10 by kernel_rfl).symm.trans hf) |>.symm
   obtain rfl : fn = Tryd.f10 := (Option.some.inj (Tryd.func10.symm.trans hfn)).symm
   refine ⟨by kernel_rfl, fun j t ht => ?_⟩
   have hall : (Tryd.f10.params.toList.all fun t => !Tryd.prog.wantsStandIn t) = true := by kernel_rfl
   have := List.all_eq_true.1 hall t (Array.mem_def.1 (Array.mem_of_getElem? ht))
   exact (show Tryd.prog.wantsStandIn t = false by simpa using this))
  (by kernel_rfl)
#print axioms proved
end Go.Proofs.YtbkcllfgolmloaaDoor.fnExactLengthRelation
namespace Go.Proofs.YtbkcllfgolmloaaDoor
/-- The row, under a short name, for the claim. -/
theorem fnExactLengthRelation_holds : Rows.FnExactLengthRelationCardSaid := fnExactLengthRelation.proved
end Go.Proofs.YtbkcllfgolmloaaDoor

