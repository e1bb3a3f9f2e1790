import Derived.Test.YtocfcpicleomcaaDoorMT2
import Derived.Test.YtocfcpicleomcaaDoorMT3
import Derived.Test.YtocfcpicleomcaaDoorMT9
import Derived.Carry
import Derived.Outline
import Derived.Test.YtocfcpicleomcaaDoorRows
import Derived.Test.YtocfcpicleomcaaDoorMT5
import Derived.Lib.LaidTab
import Derived.LaidLaws
import Derived.ChangeVars
import Derived.JoinedOf
import Derived.JoinedAt
import Derived.Deep.Matrix
import Derived.Deep.Grids
import Derived.Lib.SmallJoins
import Derived.ProofKit
import Derived.OpenShut
import Derived.SliceStrings
import Derived.ChangeSlices
import Derived.ChangeMaps5
import Derived.Test.YtocfcpicleomcaaDoorMT6
import Derived.Test.YtocfcpicleomcaaDoorMT8
import Derived.Test.YtocfcpicleomcaaDoorMT4
namespace Go.Proofs.YtocfcpicleomcaaDoor.X
set_option maxHeartbeats 16000000
set_option maxRecDepth 100000
open Go.RowKit Go.Proofs.YtocfcpicleomcaaDoorW.PrintWords Go.Proofs.YtocfcpicleomcaaDoorW.PrintLast Go.Proofs.YtocfcpicleomcaaDoorW.PrintMore
set_option linter.unusedVariables false
set_option linter.unusedSimpArgs false
open Classical in
noncomputable def laws_FnExactMoveTapes.f (k : Nat) (t0 : Int) (s0 : Int) (l02 : List Bool) (l03 : List (List Int)) (l1 : List Int) : Option Bool := if 1048576 < l1.length then some true else (laws_szRelation.f k t0 s0 l02 l03 1048576).bind fun z1 => if z1 < 0 then some true else if laws_toRelation.f k t0 s0 l02 l03 = some (t0, s0, l02, l03) then (if laws_toInt64S.f k l1 = some (l1) then ((spec_MoveTapes.f k t0 s0 l02 l03 l1).bind fun | (r0_0, r0_1, r0_2, r0_3, r1) => if impl_MoveTapes.f k t0 s0 l02 l03 l1 = some (r0_0, r0_1, r0_2, r0_3, r1) then (if laws_eqRelation.f k r0_0 r0_1 r0_2 r0_3 r0_0 r0_1 r0_2 r0_3 = some true then (if laws_eqRelation.f k t0 s0 l02 l03 t0 s0 l02 l03 = some true then (if laws_eqInt64S.f k l1 l1 = some true then ((laws_markBoolS.f k l02 1).bind fun | (m13a, l02m) => (laws_markInt64SS.f k l03 m13a).bind fun | (m13, l03m) => if m13 < 0 then none else ((laws_markInt64S.f k l1 m13).bind fun | (m14, l1m) => if m14 < 0 then none else ((laws_markBoolS.f k r0_2 1).bind fun | (m16a, r0_2m) => (laws_markInt64SS.f k r0_3 m16a).bind fun | (m16, r0_3m) => if m16 < 0 then none else (if laws_heldRelation.f k r0_0 r0_1 r0_2m r0_3m 1 = some m16 then (some true) else none)))) else none) else none) else none) else none) else none) else none
theorem laws_FnExactMoveTapes.main (k : Nat) (t0 s0 : Int) (A02 : Option Addr) (c02 : Nat) (l02 : List Bool) (A03 : Option Addr) (c03 : Nat) (l03 : List (List Int)) (A1 : Option Addr) (c1 : Nat) (l1 : List Int) (w : World) (htab : TabOK w) (hln : l1.length ≤ 1048576) (hr02 : Kd.C Kd.bool w A02 l02.length l02) (hc02 : l02.length ≤ c02) (hr03 : Kd.C (Kd.slice 2 (Kd.int .i64)) w A03 l03.length l03) (hc03 : l03.length ≤ c03) (hr1 : Kd.C (Kd.int .i64) w A1 l1.length l1) (hc1 : l1.length ≤ c1) (z1 : Int) (r0_0 : Int) (r0_1 : Int) (r0_2 : List Bool) (r0_3 : List (List Int)) (r1 : Int) (m13a : Int) (l02m : List Bool) (m13 : Int) (l03m : List (List Int)) (m14 : Int) (l1m : List Int) (m16a : Int) (r0_2m : List Bool) (m16 : Int) (r0_3m : List (List Int)) (hz1 : laws_szRelation.f k t0 s0 l02 l03 1048576 = some z1) (ht0 : laws_toRelation.f k t0 s0 l02 l03 = some (t0, s0, l02, l03)) (ht1 : laws_toInt64S.f k l1 = some (l1)) (hS : spec_MoveTapes.f k t0 s0 l02 l03 l1 = some (r0_0, r0_1, r0_2, r0_3, r1)) (hI : impl_MoveTapes.f k t0 s0 l02 l03 l1 = some (r0_0, r0_1, r0_2, r0_3, r1)) (her : laws_eqRelation.f k r0_0 r0_1 r0_2 r0_3 r0_0 r0_1 r0_2 r0_3 = some true) (he0 : laws_eqRelation.f k t0 s0 l02 l03 t0 s0 l02 l03 = some true) (he1 : laws_eqInt64S.f k l1 l1 = some true) (hm13a : laws_markBoolS.f k l02 1 = some (m13a, l02m)) (hm13b : laws_markInt64SS.f k l03 m13a = some (m13, l03m)) (hn13 : ¬ m13 < 0) (hm14 : laws_markInt64S.f k l1 m13 = some (m14, l1m)) (hn14 : ¬ m14 < 0) (hm16a : laws_markBoolS.f k r0_2 1 = some (m16a, r0_2m)) (hm16b : laws_markInt64SS.f k r0_3 m16a = some (m16, r0_3m)) (hn16 : ¬ m16 < 0) (hh : laws_heldRelation.f k r0_0 r0_1 r0_2m r0_3m 1 = some m16) (hsz1 : ¬ z1 < 0) :
  Calls Tryd.prog 10 #[.agg #[.int .i64 t0, .int .i64 s0, .slice A02 l02.length c02, .slice A03 l03.length c03], .slice A1 l1.length c1] w fun e w' => e = .returned (.bool true) ∧ Below w.heap.size w w' := by
 have HR02 := am hr02; have HC02 := am hc02; have HR03 := am hr03; have HC03 := am hc03; have HR1 := am hr1; have HC1 := am hc1; have HZ1 := am hz1; have HT0 := am ht0; have HT1 := am ht1; have HS := am hS; have HI := am hI; have HER := am her; have HE0 := am he0; have HE1 := am he1; have HM13A := am hm13a; have HM13B := am hm13b; have HN13 := am hn13; have HM14 := am hm14; have HN14 := am hn14; have HM16A := am hm16a; have HM16B := am hm16b; have HN16 := am hn16; have HH := am hh; have HSZ1 := am hsz1; have HT := am htab; clear hr02 hc02 hr03 hc03 hr1 hc1 hz1 ht0 ht1 hS hI her he0 he1 hm13a hm13b hn13 hm14 hn14 hm16a hm16b hn16 hh hsz1 htab; have HB_w := am (Below.refl w.heap.size w); have cl0 : decide ((1048576 : Int) < (l1.length : Int)) = false := decide_eq_false (by omega); have cl1 : decide (1048576 < l1.length) = false := decide_eq_false (by omega); go_enter Tryd.func10, Tryd.ntmps10
 go_wp2_with (fail)
 clear cl0 cl1 hln; have HB_w1 := am (below_alloc (Below.refl w.heap.size w) (.cells #[.int .i64 t0, .int .i64 s0, .slice A02 l02.length c02, .slice A03 l03.length c03] 25)); have BXp0_w1 : Aside0 ((((w.alloc (.cells #[.int .i64 t0, .int .i64 s0, .slice A02 l02.length c02, .slice A03 l03.length c03] 25))).heap)[w.heap.size]? = some (.cells #[.int .i64 t0, .int .i64 s0, .slice A02 l02.length c02, .slice A03 l03.length c03] 25 (0, 0))) := am (by have q_ := (blk_new w (.cells #[.int .i64 t0, .int .i64 s0, .slice A02 l02.length c02, .slice A03 l03.length c03] 25)); simpa using q_); have HZ_w1 := am (show w.heap.size + 1 ≤ ((w.alloc (.cells #[.int .i64 t0, .int .i64 s0, .slice A02 l02.length c02, .slice A03 l03.length c03] 25))).heap.size by simp); generalize (w.alloc (.cells #[.int .i64 t0, .int .i64 s0, .slice A02 l02.length c02, .slice A03 l03.length c03] 25)) = w1 at *; (with_reducible refine (laws_szRelation.calls k t0 s0 _ _ l02 _ _ l03 1048576 z1 _ (Kd.C_below HR02.out HB_w1.out) HC02.out (Kd.C_below HR03.out HB_w1.out) HC03.out HZ1.out).mono ?_); rintro e w2 ⟨rfl, hb⟩; have HZ_w2 := am (show w1.heap.size + 0 ≤ w2.heap.size by have := hb.size; omega); have HB_w2 := am (below_then HB_w1.out HB_w1.out.size hb); have BXp0_w2 := am (blk_below BXp0_w1.out hb); clear HB_w1 BXp0_w1; clear hb; have hsz1 : decide (z1 < 0) = false := decide_eq_false (by have q_ := HSZ1.out; omega); obtain ⟨hx0_0, hx0_1, hx0_2, hx0_3⟩ := bc4 BXp0_w2.out
 go_wp2_with (fail)
 clear hx0_0 hx0_1 hx0_2 hx0_3; (with_reducible refine (laws_toRelation.calls k t0 s0 _ _ l02 _ _ l03 t0 s0 l02 l03 _ (Kd.C_below HR02.out HB_w2.out) HC02.out (Kd.C_below HR03.out HB_w2.out) HC03.out HT0.out).mono ?_); rintro e w3 ⟨vx202, vx203, rfl, hx202, hx203, hb⟩; obtain ⟨Ax202, cx202, hvx202⟩ := Kd.R_slice hx202; subst hvx202; obtain ⟨Ax203, cx203, hvx203⟩ := Kd.S_slice hx203; subst hvx203; have HZ_w3 := am (show w2.heap.size + 0 ≤ w3.heap.size by have := hb.size; omega); have RIx20_w3 := am (RelOwn.mk_ (base := w.heap.size) HB_w2.out.size hx202 hx203); have HB_w3 := am (below_then HB_w2.out HB_w2.out.size hb); have BXp0_w3 := am (blk_below BXp0_w2.out hb); clear HB_w2 BXp0_w2; clear hx202 hx203 hb
 go_wp2_with (fail)
 (with_reducible refine (laws_toInt64S.calls k _ _ l1 l1 _ (Kd.C_below HR1.out HB_w3.out) HC1.out HT1.out).mono ?_); rintro e w4 ⟨vx30, rfl, hx30, hb⟩; obtain ⟨Ax30, cx30, hvx30⟩ := Kd.R_slice hx30; subst hvx30; have HZ_w4 := am (show w3.heap.size + 0 ≤ w4.heap.size by have := hb.size; omega); have RIx30_w4 := am (RowOwn.mk_ (base := w.heap.size) HB_w3.out.size hx30); have HB_w4 := am (below_then HB_w3.out HB_w3.out.size hb); have BXp0_w4 := am (blk_below BXp0_w3.out hb); have RIx20_w4 := am (RIx20_w3.out.below hb); clear HB_w3 BXp0_w3 RIx20_w3; clear hx30 hb
 go_wp2_with (fail)
 (with_reducible refine (spec_MoveTapes.calls k t0 s0 _ _ l02 _ _ l03 _ _ l1 r0_0 r0_1 r0_2 r0_3 r1 _ RIx20_w4.out.reads.1 RIx20_w4.out.reads.2.1 RIx20_w4.out.reads.2.2.1 RIx20_w4.out.reads.2.2.2 RIx30_w4.out.reads.1 RIx30_w4.out.reads.2 HS.out).mono ?_); rintro e w5 ⟨vy402, vy403, rfl, hy402, hy403, hb⟩; obtain ⟨Ay402, cy402, hvy402⟩ := Kd.R_slice hy402; subst hvy402; obtain ⟨Ay403, cy403, hvy403⟩ := Kd.S_slice hy403; subst hvy403; have HZ_w5 := am (show w4.heap.size + 0 ≤ w5.heap.size by have := hb.size; omega); have RIy40_w5 := am (RelOwn.mk_ (base := w.heap.size) HB_w4.out.size hy402 hy403); have HB_w5 := am (below_then HB_w4.out HB_w4.out.size hb); have BXp0_w5 := am (blk_below BXp0_w4.out hb); have RIx20_w5 := am (RIx20_w4.out.below hb); have RIx30_w5 := am (RIx30_w4.out.below hb); clear HB_w4 BXp0_w4 RIx20_w4 RIx30_w4; clear hy402 hy403 hb
 go_upto_region 8 with (fail)
 have BX6_w6 := am (blk_new w5 (.cells #[.int .i64 r0_0, .int .i64 r0_1, .slice Ay402 r0_2.length cy402, .slice Ay403 r0_3.length cy403] 29)); have hb := below_alloc (Below.refl w5.heap.size w5) (.cells #[.int .i64 r0_0, .int .i64 r0_1, .slice Ay402 r0_2.length cy402, .slice Ay403 r0_3.length cy403] 29); have HZ_w6 := am (show w5.heap.size + 1 ≤ (w5.alloc (.cells #[.int .i64 r0_0, .int .i64 r0_1, .slice Ay402 r0_2.length cy402, .slice Ay403 r0_3.length cy403] 29)).heap.size by simp); have HB_w6 := am (below_then HB_w5.out HB_w5.out.size hb); have BXp0_w6 := am (blk_below BXp0_w5.out hb); have RIx20_w6 := am (RIx20_w5.out.below hb); have RIx30_w6 := am (RIx30_w5.out.below hb); have RIy40_w6 := am (RIy40_w5.out.below hb); clear HB_w5 BXp0_w5 RIx20_w5 RIx30_w5 RIy40_w5; clear hb; generalize w5.alloc _ = w6 at *; obtain ⟨hx0_0, hx0_1, hx0_2, hx0_3⟩ := bc4 BXp0_w6.out
 go_wp2_with (fail)
 clear hx0_0 hx0_1 hx0_2 hx0_3; (with_reducible refine (laws_toRelation.calls k t0 s0 _ _ l02 _ _ l03 t0 s0 l02 l03 _ (Kd.C_below HR02.out HB_w6.out) HC02.out (Kd.C_below HR03.out HB_w6.out) HC03.out HT0.out).mono ?_); rintro e w7 ⟨vx502, vx503, rfl, hx502, hx503, hb⟩; obtain ⟨Ax502, cx502, hvx502⟩ := Kd.R_slice hx502; subst hvx502; obtain ⟨Ax503, cx503, hvx503⟩ := Kd.S_slice hx503; subst hvx503; have HZ_w7 := am (show w6.heap.size + 0 ≤ w7.heap.size by have := hb.size; omega); have RIx50_w7 := am (RelOwn.mk_ (base := w.heap.size) HB_w6.out.size hx502 hx503); have HB_w7 := am (below_then HB_w6.out HB_w6.out.size hb); have BXp0_w7 := am (blk_below BXp0_w6.out hb); have RIx20_w7 := am (RIx20_w6.out.below hb); have RIx30_w7 := am (RIx30_w6.out.below hb); have RIy40_w7 := am (RIy40_w6.out.below hb); have BX6_w7 := am (blk_below BX6_w6.out hb); clear HB_w6 BXp0_w6 RIx20_w6 RIx30_w6 RIy40_w6 BX6_w6; clear hx502 hx503 hb
 go_upto_region 9 with (fail)
 have BX8_w8 := am (blk_new w7 (.cells #[.int .i64 t0, .int .i64 s0, .slice Ax502 l02.length cx502, .slice Ax503 l03.length cx503] 29)); have hb := below_alloc (Below.refl w7.heap.size w7) (.cells #[.int .i64 t0, .int .i64 s0, .slice Ax502 l02.length cx502, .slice Ax503 l03.length cx503] 29); have HZ_w8 := am (show w7.heap.size + 1 ≤ (w7.alloc (.cells #[.int .i64 t0, .int .i64 s0, .slice Ax502 l02.length cx502, .slice Ax503 l03.length cx503] 29)).heap.size by simp); have HB_w8 := am (below_then HB_w7.out HB_w7.out.size hb); have BXp0_w8 := am (blk_below BXp0_w7.out hb); have RIx20_w8 := am (RIx20_w7.out.below hb); have RIx30_w8 := am (RIx30_w7.out.below hb); have RIy40_w8 := am (RIy40_w7.out.below hb); have BX6_w8 := am (blk_below BX6_w7.out hb); have RIx50_w8 := am (RIx50_w7.out.below hb); clear HB_w7 BXp0_w7 RIx20_w7 RIx30_w7 RIy40_w7 BX6_w7 RIx50_w7; clear hb; generalize w7.alloc _ = w8 at *
 go_wp2_with (fail)
 (with_reducible refine (laws_toInt64S.calls k _ _ l1 l1 _ (Kd.C_below HR1.out HB_w8.out) HC1.out HT1.out).mono ?_); rintro e w9 ⟨vx60, rfl, hx60, hb⟩; obtain ⟨Ax60, cx60, hvx60⟩ := Kd.R_slice hx60; subst hvx60; have HZ_w9 := am (show w8.heap.size + 0 ≤ w9.heap.size by have := hb.size; omega); have RIx60_w9 := am (RowOwn.mk_ (base := w.heap.size) HB_w8.out.size hx60); have HB_w9 := am (below_then HB_w8.out HB_w8.out.size hb); have BXp0_w9 := am (blk_below BXp0_w8.out hb); have RIx20_w9 := am (RIx20_w8.out.below hb); have RIx30_w9 := am (RIx30_w8.out.below hb); have RIy40_w9 := am (RIy40_w8.out.below hb); have BX6_w9 := am (blk_below BX6_w8.out hb); have RIx50_w9 := am (RIx50_w8.out.below hb); have BX8_w9 := am (blk_below BX8_w8.out hb); clear HB_w8 BXp0_w8 RIx20_w8 RIx30_w8 RIy40_w8 BX6_w8 RIx50_w8 BX8_w8; clear hx60 hb; obtain ⟨hx0_0, hx0_1, hx0_2, hx0_3⟩ := bc4 BX8_w9.out
 go_wp2_with (fail)
 clear hx0_0 hx0_1 hx0_2 hx0_3; (with_reducible refine (impl_MoveTapes.calls k t0 s0 _ _ l02 _ _ l03 _ _ l1 r0_0 r0_1 r0_2 r0_3 r1 _ (tab_below HT.out HB_w9.out) RIx50_w9.out.reads.1 RIx50_w9.out.reads.2.1 RIx50_w9.out.reads.2.2.1 RIx50_w9.out.reads.2.2.2 RIx60_w9.out.reads.1 RIx60_w9.out.reads.2 HI.out).mono ?_); rintro e w10 ⟨vy702, vy703, rfl, hy702, hy703, hb⟩; obtain ⟨Ay702, cy702, hvy702⟩ := Kd.R_slice hy702; subst hvy702; obtain ⟨Ay703, cy703, hvy703⟩ := Kd.S_slice hy703; subst hvy703; have HZ_w10 := am (show w9.heap.size + 0 ≤ w10.heap.size by have := hb.size; omega); have RIy70_w10 := am (RelOwn.mk_ (base := w.heap.size) HB_w9.out.size hy702 hy703); have HB_w10 := am (below_then HB_w9.out HB_w9.out.size hb); have BXp0_w10 := am (blk_below BXp0_w9.out hb); have RIx20_w10 := am (RIx20_w9.out.below hb); have RIx30_w10 := am (RIx30_w9.out.below hb); have RIy40_w10 := am (RIy40_w9.out.below hb); have BX6_w10 := am (blk_below BX6_w9.out hb); have RIx50_w10 := am (RIx50_w9.out.below hb); have BX8_w10 := am (blk_below BX8_w9.out hb); have RIx60_w10 := am (RIx60_w9.out.below hb); clear HB_w9 BXp0_w9 RIx20_w9 RIx30_w9 RIy40_w9 BX6_w9 RIx50_w9 BX8_w9 RIx60_w9; clear hy702 hy703 hb
 go_upto_region 11 with (fail)
 have BX10_w11 := am (blk_new w10 (.cells #[.int .i64 r0_0, .int .i64 r0_1, .slice Ay702 r0_2.length cy702, .slice Ay703 r0_3.length cy703] 29)); have hb := below_alloc (Below.refl w10.heap.size w10) (.cells #[.int .i64 r0_0, .int .i64 r0_1, .slice Ay702 r0_2.length cy702, .slice Ay703 r0_3.length cy703] 29); have HZ_w11 := am (show w10.heap.size + 1 ≤ (w10.alloc (.cells #[.int .i64 r0_0, .int .i64 r0_1, .slice Ay702 r0_2.length cy702, .slice Ay703 r0_3.length cy703] 29)).heap.size by simp); have HB_w11 := am (below_then HB_w10.out HB_w10.out.size hb); have BXp0_w11 := am (blk_below BXp0_w10.out hb); have RIx20_w11 := am (RIx20_w10.out.below hb); have RIx30_w11 := am (RIx30_w10.out.below hb); have RIy40_w11 := am (RIy40_w10.out.below hb); have BX6_w11 := am (blk_below BX6_w10.out hb); have RIx50_w11 := am (RIx50_w10.out.below hb); have BX8_w11 := am (blk_below BX8_w10.out hb); have RIx60_w11 := am (RIx60_w10.out.below hb); have RIy70_w11 := am (RIy70_w10.out.below hb); clear HB_w10 BXp0_w10 RIx20_w10 RIx30_w10 RIy40_w10 BX6_w10 RIx50_w10 BX8_w10 RIx60_w10 RIy70_w10; clear hb; generalize w10.alloc _ = w11 at *; obtain ⟨hx0_0, hx0_1, hx0_2, hx0_3⟩ := bc4 BX10_w11.out; obtain ⟨hx1_0, hx1_1, hx1_2, hx1_3⟩ := bc4 BX6_w11.out
 go_wp2_with (fail)
 clear hx0_0 hx0_1 hx0_2 hx0_3 hx1_0 hx1_1 hx1_2 hx1_3; (with_reducible refine (laws_eqRelation.calls k r0_0 r0_1 _ _ r0_2 _ _ r0_3 r0_0 r0_1 _ _ r0_2 _ _ r0_3 true _ RIy70_w11.out.reads.1 RIy70_w11.out.reads.2.1 RIy70_w11.out.reads.2.2.1 RIy70_w11.out.reads.2.2.2 RIy40_w11.out.reads.1 RIy40_w11.out.reads.2.1 RIy40_w11.out.reads.2.2.1 RIy40_w11.out.reads.2.2.2 HER.out).mono ?_); rintro e w12 ⟨rfl, hb⟩; have HZ_w12 := am (show w11.heap.size + 0 ≤ w12.heap.size by have := hb.size; omega); have HB_w12 := am (below_then HB_w11.out HB_w11.out.size hb); have BXp0_w12 := am (blk_below BXp0_w11.out hb); have RIx20_w12 := am (RIx20_w11.out.below hb); have RIx30_w12 := am (RIx30_w11.out.below hb); have RIy40_w12 := am (RIy40_w11.out.below hb); have BX6_w12 := am (blk_below BX6_w11.out hb); have RIx50_w12 := am (RIx50_w11.out.below hb); have BX8_w12 := am (blk_below BX8_w11.out hb); have RIx60_w12 := am (RIx60_w11.out.below hb); have RIy70_w12 := am (RIy70_w11.out.below hb); have BX10_w12 := am (blk_below BX10_w11.out hb); clear HB_w11 BXp0_w11 RIx20_w11 RIx30_w11 RIy40_w11 BX6_w11 RIx50_w11 BX8_w11 RIx60_w11 RIy70_w11 BX10_w11; clear hb
 go_upto_region 13 with (fail)
 have HB_w13 := am (below_drew1 HB_w12.out); have BXp0_w13 := am (blk_drew BXp0_w12.out); have RIx20_w13 := am (RIx20_w12.out.below (below_drew (Below.refl _ _))); have RIx30_w13 := am (RIx30_w12.out.below (below_drew (Below.refl _ _))); have RIy40_w13 := am (RIy40_w12.out.below (below_drew (Below.refl _ _))); have BX6_w13 := am (blk_drew BX6_w12.out); have RIx50_w13 := am (RIx50_w12.out.below (below_drew (Below.refl _ _))); have BX8_w13 := am (blk_drew BX8_w12.out); have RIx60_w13 := am (RIx60_w12.out.below (below_drew (Below.refl _ _))); have RIy70_w13 := am (RIy70_w12.out.below (below_drew (Below.refl _ _))); have BX10_w13 := am (blk_drew BX10_w12.out); clear HB_w12 BXp0_w12 RIx20_w12 RIx30_w12 RIy40_w12 BX6_w12 RIx50_w12 BX8_w12 RIx60_w12 RIy70_w12 BX10_w12; have HZ_w13 := am (show w12.heap.size + 0 ≤ w12.drew.heap.size by simp); refine start_ (n := 5) (S := fun w' => w'.cell? ⟨w7.heap.size, 0, none⟩ = some (.int .i64 t0) ∧ w'.cell? ⟨w7.heap.size, 1, none⟩ = some (.int .i64 s0) ∧ w'.cell? ⟨w7.heap.size, 2, none⟩ = some (.slice Ax502 l02.length cx502) ∧ w'.cell? ⟨w7.heap.size, 3, none⟩ = some (.slice Ax503 l03.length cx503) ∧ w'.cell? ⟨w.heap.size, 0, none⟩ = some (.int .i64 t0) ∧ w'.cell? ⟨w.heap.size, 1, none⟩ = some (.int .i64 s0) ∧ w'.cell? ⟨w.heap.size, 2, none⟩ = some (.slice A02 l02.length c02) ∧ w'.cell? ⟨w.heap.size, 3, none⟩ = some (.slice A03 l03.length c03)) (ds := []) #[false, false, false, false, false] (by kernel_rfl) rfl rfl (bc8 BX8_w13.out BXp0_w13.out) (fun hHeld => ?_); generalize w12.drew = w13 at *; refine takeA8 0 (some 52) (bl 5 1) hHeld rfl rfl (h := ?_); refine takeA8 1 (some 53) (bl 5 3) hHeld rfl rfl (h := ?_); refine oneA 2 (some 54) (bl 5 7) rfl rfl (fun K hK => ?_); refine goesA Tryd.func17 #[.agg #[.int .i64 t0, .int .i64 s0, .slice A02 l02.length c02, .slice A03 l03.length c03]] rfl (h := ?_); (with_reducible refine (laws_toRelation.calls k t0 s0 _ _ l02 _ _ l03 t0 s0 l02 l03 _ (Kd.C_below HR02.out HB_w13.out) HC02.out (Kd.C_below HR03.out HB_w13.out) HC03.out HT0.out).mono ?_); rintro e w14 ⟨vx902, vx903, rfl, hx902, hx903, hb⟩; obtain ⟨Ax902, cx902, hvx902⟩ := Kd.R_slice hx902; subst hvx902; obtain ⟨Ax903, cx903, hvx903⟩ := Kd.S_slice hx903; subst hvx903; have HZ_w14 := am (show w13.heap.size + 0 ≤ w14.heap.size by have := hb.size; omega); have RIx90_w14 := am (RelOwn.mk_ (base := w.heap.size) HB_w13.out.size hx902 hx903); have HB_w14 := am (below_then HB_w13.out HB_w13.out.size hb); have BXp0_w14 := am (blk_below BXp0_w13.out hb); have RIx20_w14 := am (RIx20_w13.out.below hb); have RIx30_w14 := am (RIx30_w13.out.below hb); have RIy40_w14 := am (RIy40_w13.out.below hb); have BX6_w14 := am (blk_below BX6_w13.out hb); have RIx50_w14 := am (RIx50_w13.out.below hb); have BX8_w14 := am (blk_below BX8_w13.out hb); have RIx60_w14 := am (RIx60_w13.out.below hb); have RIy70_w14 := am (RIy70_w13.out.below hb); have BX10_w14 := am (blk_below BX10_w13.out hb); clear HB_w13 BXp0_w13 RIx20_w13 RIx30_w13 RIy40_w13 BX6_w13 RIx50_w13 BX8_w13 RIx60_w13 RIy70_w13 BX10_w13; clear hx902 hx903 hb; refine ⟨_, rfl, ?_⟩; refine hK.out _ _ (bc8 BX8_w14.out BXp0_w14.out) (fun hHeld => ?_); clear hK K; refine normA (h := ?_); refine oneA 3 (some 55) (bl 5 15) rfl rfl (fun K hK => ?_); refine goesA Tryd.func19 #[.agg #[.int .i64 t0, .int .i64 s0, .slice Ax502 l02.length cx502, .slice Ax503 l03.length cx503], .agg #[.int .i64 t0, .int .i64 s0, .slice Ax902 l02.length cx902, .slice Ax903 l03.length cx903]] rfl (h := ?_); (with_reducible refine (laws_eqRelation.calls k t0 s0 _ _ l02 _ _ l03 t0 s0 _ _ l02 _ _ l03 true _ RIx50_w14.out.reads.1 RIx50_w14.out.reads.2.1 RIx50_w14.out.reads.2.2.1 RIx50_w14.out.reads.2.2.2 RIx90_w14.out.reads.1 RIx90_w14.out.reads.2.1 RIx90_w14.out.reads.2.2.1 RIx90_w14.out.reads.2.2.2 HE0.out).mono ?_); rintro e w15 ⟨rfl, hb⟩; have HZ_w15 := am (show w14.heap.size + 0 ≤ w15.heap.size by have := hb.size; omega); have HB_w15 := am (below_then HB_w14.out HB_w14.out.size hb); have BXp0_w15 := am (blk_below BXp0_w14.out hb); have RIx20_w15 := am (RIx20_w14.out.below hb); have RIx30_w15 := am (RIx30_w14.out.below hb); have RIy40_w15 := am (RIy40_w14.out.below hb); have BX6_w15 := am (blk_below BX6_w14.out hb); have RIx50_w15 := am (RIx50_w14.out.below hb); have BX8_w15 := am (blk_below BX8_w14.out hb); have RIx60_w15 := am (RIx60_w14.out.below hb); have RIy70_w15 := am (RIy70_w14.out.below hb); have BX10_w15 := am (blk_below BX10_w14.out hb); have RIx90_w15 := am (RIx90_w14.out.below hb); clear HB_w14 BXp0_w14 RIx20_w14 RIx30_w14 RIy40_w14 BX6_w14 RIx50_w14 BX8_w14 RIx60_w14 RIy70_w14 BX10_w14 RIx90_w14; clear hb; refine ⟨_, rfl, ?_⟩; refine hK.out _ _ (bc8 BX8_w15.out BXp0_w15.out) (fun hHeld => ?_); clear hK K; refine normA (h := ?_); refine pureA 4 (some 56) (bl 5 31) rfl rfl (h := ?_); refine done_ (by kernel_rfl) ?_; clear hHeld; clear RIx20_w15; clear RIx90_w15
 go_wp2_with (fail)
 (with_reducible refine (laws_toInt64S.calls k _ _ l1 l1 _ (Kd.C_below HR1.out HB_w15.out) HC1.out HT1.out).mono ?_); rintro e w16 ⟨vx110, rfl, hx110, hb⟩; obtain ⟨Ax110, cx110, hvx110⟩ := Kd.R_slice hx110; subst hvx110; have HZ_w16 := am (show w15.heap.size + 0 ≤ w16.heap.size by have := hb.size; omega); have RIx110_w16 := am (RowOwn.mk_ (base := w.heap.size) HB_w15.out.size hx110); have HB_w16 := am (below_then HB_w15.out HB_w15.out.size hb); have BXp0_w16 := am (blk_below BXp0_w15.out hb); have RIx30_w16 := am (RIx30_w15.out.below hb); have RIy40_w16 := am (RIy40_w15.out.below hb); have BX6_w16 := am (blk_below BX6_w15.out hb); have RIx50_w16 := am (RIx50_w15.out.below hb); have BX8_w16 := am (blk_below BX8_w15.out hb); have RIx60_w16 := am (RIx60_w15.out.below hb); have RIy70_w16 := am (RIy70_w15.out.below hb); have BX10_w16 := am (blk_below BX10_w15.out hb); clear HB_w15 BXp0_w15 RIx30_w15 RIy40_w15 BX6_w15 RIx50_w15 BX8_w15 RIx60_w15 RIy70_w15 BX10_w15; clear hx110 hb
 go_wp2_with (fail)
 (with_reducible refine (laws_eqInt64S.calls k _ _ l1 _ _ l1 true _ RIx60_w16.out.reads.1 RIx60_w16.out.reads.2 RIx110_w16.out.reads.1 RIx110_w16.out.reads.2 HE1.out).mono ?_); rintro e w17 ⟨rfl, hb⟩; replace hb := hb.below; have HZ_w17 := am (show w16.heap.size + 0 ≤ w17.heap.size by have := hb.size; omega); have HB_w17 := am (below_then HB_w16.out HB_w16.out.size hb); have BXp0_w17 := am (blk_below BXp0_w16.out hb); have RIx30_w17 := am (RIx30_w16.out.below hb); have RIy40_w17 := am (RIy40_w16.out.below hb); have BX6_w17 := am (blk_below BX6_w16.out hb); have RIx50_w17 := am (RIx50_w16.out.below hb); have BX8_w17 := am (blk_below BX8_w16.out hb); have RIx60_w17 := am (RIx60_w16.out.below hb); have RIy70_w17 := am (RIy70_w16.out.below hb); have BX10_w17 := am (blk_below BX10_w16.out hb); have RIx110_w17 := am (RIx110_w16.out.below hb); clear HB_w16 BXp0_w16 RIx30_w16 RIy40_w16 BX6_w16 RIx50_w16 BX8_w16 RIx60_w16 RIy70_w16 BX10_w16 RIx110_w16; clear hb; obtain ⟨hx0_0, hx0_1, hx0_2, hx0_3⟩ := bc4 BX8_w17.out
 go_wp2_with (fail)
 clear hx0_0 hx0_1 hx0_2 hx0_3; (with_reducible refine (RelOwn.mark k _ _ _ _ l02 l03 1 m13a m13 l02m l03m w _ HB_w17.out RIx50_w17.out (by have := HZ_w1.out; have := HZ_w2.out; have := HZ_w3.out; have := HZ_w4.out; have := HZ_w5.out; have := HZ_w6.out; have := HZ_w7.out; have := HZ_w8.out; have := HZ_w9.out; have := HZ_w10.out; have := HZ_w11.out; have := HZ_w12.out; have := HZ_w13.out; have := HZ_w14.out; have := HZ_w15.out; have := HZ_w16.out; have := HZ_w17.out; omega) HM13A.out HM13B.out).mono ?_); rintro e w18 ⟨rfl, hI_, hB_, hK_⟩; have HZ_w18 := am (show w17.heap.size + 0 ≤ w18.heap.size by have := hK_.1; omega); have hzm_ := (And.intro HZ_w1.out (And.intro HZ_w2.out (And.intro HZ_w3.out (And.intro HZ_w4.out (And.intro HZ_w5.out (And.intro HZ_w6.out (And.intro HZ_w7.out (And.intro HZ_w8.out (And.intro HZ_w9.out (And.intro HZ_w10.out (And.intro HZ_w11.out (And.intro HZ_w12.out (And.intro HZ_w13.out (And.intro HZ_w14.out (And.intro HZ_w15.out (And.intro HZ_w16.out (And.intro HZ_w17.out trivial))))))))))))))))); have BXp0_w18 := am ((hK_.2 _ (by have q_ := blk_lt BXp0_w17.out; exact q_) (by have := hzm_; omega)).trans BXp0_w17.out); have RIx30_w18 := am (RIx30_w17.out.kept hK_ (fun k_ h1_ h2_ => by have := hzm_; omega)); have RIy40_w18 := am (RIy40_w17.out.kept hK_ (fun k_ h1_ h2_ => by have := hzm_; omega)); have BX6_w18 := am ((hK_.2 _ (by have q_ := blk_lt BX6_w17.out; exact q_) (by have := hzm_; omega)).trans BX6_w17.out); have BX8_w18 := am ((hK_.2 _ (by have q_ := blk_lt BX8_w17.out; exact q_) (by have := hzm_; omega)).trans BX8_w17.out); have RIx60_w18 := am (RIx60_w17.out.kept hK_ (fun k_ h1_ h2_ => by have := hzm_; omega)); have RIy70_w18 := am (RIy70_w17.out.kept hK_ (fun k_ h1_ h2_ => by have := hzm_; omega)); have BX10_w18 := am ((hK_.2 _ (by have q_ := blk_lt BX10_w17.out; exact q_) (by have := hzm_; omega)).trans BX10_w17.out); have RIx110_w18 := am (RIx110_w17.out.kept hK_ (fun k_ h1_ h2_ => by have := hzm_; omega)); clear BXp0_w17 RIx30_w17 RIy40_w17 BX6_w17 BX8_w17 RIx60_w17 RIy70_w17 BX10_w17 RIx110_w17; clear hzm_; have HB_w18 := am hB_; clear HB_w17 hB_; clear hI_ hK_ RIx50_w17; have hd13 : decide (m13 < 0) = false := decide_eq_false (by have q_ := HN13.out; omega)
 go_wp2_with (fail)
 (with_reducible refine (RowOwn.mark_ints k _ l1 m13 m14 l1m w _ HB_w18.out RIx60_w18.out (by have := HZ_w1.out; have := HZ_w2.out; have := HZ_w3.out; have := HZ_w4.out; have := HZ_w5.out; have := HZ_w6.out; have := HZ_w7.out; have := HZ_w8.out; have := HZ_w9.out; have := HZ_w10.out; have := HZ_w11.out; have := HZ_w12.out; have := HZ_w13.out; have := HZ_w14.out; have := HZ_w15.out; have := HZ_w16.out; have := HZ_w17.out; have := HZ_w18.out; omega) HM14.out).mono ?_); rintro e w19 ⟨rfl, hI_, hB_, hK_⟩; have HZ_w19 := am (show w18.heap.size + 0 ≤ w19.heap.size by have := hK_.1; omega); have hzm_ := (And.intro HZ_w1.out (And.intro HZ_w2.out (And.intro HZ_w3.out (And.intro HZ_w4.out (And.intro HZ_w5.out (And.intro HZ_w6.out (And.intro HZ_w7.out (And.intro HZ_w8.out (And.intro HZ_w9.out (And.intro HZ_w10.out (And.intro HZ_w11.out (And.intro HZ_w12.out (And.intro HZ_w13.out (And.intro HZ_w14.out (And.intro HZ_w15.out (And.intro HZ_w16.out (And.intro HZ_w17.out (And.intro HZ_w18.out trivial)))))))))))))))))); have BXp0_w19 := am ((hK_.2 _ (by have q_ := blk_lt BXp0_w18.out; exact q_) (by have := hzm_; omega)).trans BXp0_w18.out); have RIx30_w19 := am (RIx30_w18.out.kept hK_ (fun k_ h1_ h2_ => by have := hzm_; omega)); have RIy40_w19 := am (RIy40_w18.out.kept hK_ (fun k_ h1_ h2_ => by have := hzm_; omega)); have BX6_w19 := am ((hK_.2 _ (by have q_ := blk_lt BX6_w18.out; exact q_) (by have := hzm_; omega)).trans BX6_w18.out); have BX8_w19 := am ((hK_.2 _ (by have q_ := blk_lt BX8_w18.out; exact q_) (by have := hzm_; omega)).trans BX8_w18.out); have RIy70_w19 := am (RIy70_w18.out.kept hK_ (fun k_ h1_ h2_ => by have := hzm_; omega)); have BX10_w19 := am ((hK_.2 _ (by have q_ := blk_lt BX10_w18.out; exact q_) (by have := hzm_; omega)).trans BX10_w18.out); have RIx110_w19 := am (RIx110_w18.out.kept hK_ (fun k_ h1_ h2_ => by have := hzm_; omega)); clear BXp0_w18 RIx30_w18 RIy40_w18 BX6_w18 BX8_w18 RIy70_w18 BX10_w18 RIx110_w18; clear hzm_; have HB_w19 := am hB_; clear HB_w18 hB_; clear hI_ hK_ RIx60_w18; have hd14 : decide (m14 < 0) = false := decide_eq_false (by have q_ := HN14.out; omega); obtain ⟨hx0_0, hx0_1, hx0_2, hx0_3⟩ := bc4 BX10_w19.out; obtain ⟨hx1_0, hx1_1, hx1_2, hx1_3⟩ := bc4 BX6_w19.out
 go_wp2_with (fail)
 clear hx0_0 hx0_1 hx0_2 hx0_3 hx1_0 hx1_1 hx1_2 hx1_3; (with_reducible refine (laws_eqRelation.calls k r0_0 r0_1 _ _ r0_2 _ _ r0_3 r0_0 r0_1 _ _ r0_2 _ _ r0_3 true _ RIy70_w19.out.reads.1 RIy70_w19.out.reads.2.1 RIy70_w19.out.reads.2.2.1 RIy70_w19.out.reads.2.2.2 RIy40_w19.out.reads.1 RIy40_w19.out.reads.2.1 RIy40_w19.out.reads.2.2.1 RIy40_w19.out.reads.2.2.2 HER.out).mono ?_); rintro e w20 ⟨rfl, hb⟩; have HZ_w20 := am (show w19.heap.size + 0 ≤ w20.heap.size by have := hb.size; omega); have HB_w20 := am (below_then HB_w19.out HB_w19.out.size hb); have BXp0_w20 := am (blk_below BXp0_w19.out hb); have RIx30_w20 := am (RIx30_w19.out.below hb); have RIy40_w20 := am (RIy40_w19.out.below hb); have BX6_w20 := am (blk_below BX6_w19.out hb); have BX8_w20 := am (blk_below BX8_w19.out hb); have RIy70_w20 := am (RIy70_w19.out.below hb); have BX10_w20 := am (blk_below BX10_w19.out hb); have RIx110_w20 := am (RIx110_w19.out.below hb); clear HB_w19 BXp0_w19 RIx30_w19 RIy40_w19 BX6_w19 BX8_w19 RIy70_w19 BX10_w19 RIx110_w19; clear hb; obtain ⟨hx0_0, hx0_1, hx0_2, hx0_3⟩ := bc4 BX10_w20.out
 go_wp2_with (fail)
 clear hx0_0 hx0_1 hx0_2 hx0_3; (with_reducible refine (RelOwn.mark k _ _ _ _ r0_2 r0_3 1 m16a m16 r0_2m r0_3m w _ HB_w20.out RIy70_w20.out (by have := HZ_w1.out; have := HZ_w2.out; have := HZ_w3.out; have := HZ_w4.out; have := HZ_w5.out; have := HZ_w6.out; have := HZ_w7.out; have := HZ_w8.out; have := HZ_w9.out; have := HZ_w10.out; have := HZ_w11.out; have := HZ_w12.out; have := HZ_w13.out; have := HZ_w14.out; have := HZ_w15.out; have := HZ_w16.out; have := HZ_w17.out; have := HZ_w18.out; have := HZ_w19.out; have := HZ_w20.out; omega) HM16A.out HM16B.out).mono ?_); rintro e w21 ⟨rfl, hI_, hB_, hK_⟩; have HZ_w21 := am (show w20.heap.size + 0 ≤ w21.heap.size by have := hK_.1; omega); have hzm_ := (And.intro HZ_w1.out (And.intro HZ_w2.out (And.intro HZ_w3.out (And.intro HZ_w4.out (And.intro HZ_w5.out (And.intro HZ_w6.out (And.intro HZ_w7.out (And.intro HZ_w8.out (And.intro HZ_w9.out (And.intro HZ_w10.out (And.intro HZ_w11.out (And.intro HZ_w12.out (And.intro HZ_w13.out (And.intro HZ_w14.out (And.intro HZ_w15.out (And.intro HZ_w16.out (And.intro HZ_w17.out (And.intro HZ_w18.out (And.intro HZ_w19.out (And.intro HZ_w20.out trivial)))))))))))))))))))); have BXp0_w21 := am ((hK_.2 _ (by have q_ := blk_lt BXp0_w20.out; exact q_) (by have := hzm_; omega)).trans BXp0_w20.out); have RIx30_w21 := am (RIx30_w20.out.kept hK_ (fun k_ h1_ h2_ => by have := hzm_; omega)); have RIy40_w21 := am (RIy40_w20.out.kept hK_ (fun k_ h1_ h2_ => by have := hzm_; omega)); have BX6_w21 := am ((hK_.2 _ (by have q_ := blk_lt BX6_w20.out; exact q_) (by have := hzm_; omega)).trans BX6_w20.out); have BX8_w21 := am ((hK_.2 _ (by have q_ := blk_lt BX8_w20.out; exact q_) (by have := hzm_; omega)).trans BX8_w20.out); have BX10_w21 := am ((hK_.2 _ (by have q_ := blk_lt BX10_w20.out; exact q_) (by have := hzm_; omega)).trans BX10_w20.out); have RIx110_w21 := am (RIx110_w20.out.kept hK_ (fun k_ h1_ h2_ => by have := hzm_; omega)); clear BXp0_w20 RIx30_w20 RIy40_w20 BX6_w20 BX8_w20 BX10_w20 RIx110_w20; clear hzm_; have HB_w21 := am hB_; clear HB_w20 hB_; have RIy70_w21 := am hI_; clear hI_ hK_ RIy70_w20; have hd16 : decide (m16 < 0) = false := decide_eq_false (by have q_ := HN16.out; omega); obtain ⟨hx0_0, hx0_1, hx0_2, hx0_3⟩ := bc4 BX10_w21.out
 go_wp2_with (fail)
 clear hx0_0 hx0_1 hx0_2 hx0_3; obtain ⟨e2_, e3_, q1_, q2_, q3_, q4_⟩ := RIy70_w21.out.reads'; have hq_ := laws_heldRelation.calls k r0_0 r0_1 _ _ r0_2m _ _ r0_3m 1 m16 _ q1_ q2_ q3_ q4_ HH.out; rw [← e2_, ← e3_] at hq_; clear e2_ e3_ q1_ q2_ q3_ q4_; (with_reducible refine hq_.mono ?_); clear hq_; rintro e w22 ⟨rfl, hb⟩; have HZ_w22 := am (show w21.heap.size + 0 ≤ w22.heap.size by have := hb.size; omega); have HB_w22 := am (below_then HB_w21.out HB_w21.out.size hb); have BXp0_w22 := am (blk_below BXp0_w21.out hb); have RIx30_w22 := am (RIx30_w21.out.below hb); have RIy40_w22 := am (RIy40_w21.out.below hb); have BX6_w22 := am (blk_below BX6_w21.out hb); have BX8_w22 := am (blk_below BX8_w21.out hb); have BX10_w22 := am (blk_below BX10_w21.out hb); have RIx110_w22 := am (RIx110_w21.out.below hb); have RIy70_w22 := am (RIy70_w21.out.below hb); clear HB_w21 BXp0_w21 RIx30_w21 RIy40_w21 BX6_w21 BX8_w21 BX10_w21 RIx110_w21 RIy70_w21; clear hb; obtain ⟨hx0_0, hx0_1, hx0_2, hx0_3⟩ := bc4 BXp0_w22.out
 go_wp2_with (fail)
 clear hx0_0 hx0_1 hx0_2 hx0_3; (with_reducible refine (laws_toRelation.calls k t0 s0 _ _ l02 _ _ l03 t0 s0 l02 l03 _ (Kd.C_below HR02.out HB_w22.out) HC02.out (Kd.C_below HR03.out HB_w22.out) HC03.out HT0.out).mono ?_); rintro e w23 ⟨vx1802, vx1803, rfl, hx1802, hx1803, hb⟩; obtain ⟨Ax1802, cx1802, hvx1802⟩ := Kd.R_slice hx1802; subst hvx1802; obtain ⟨Ax1803, cx1803, hvx1803⟩ := Kd.S_slice hx1803; subst hvx1803; have HZ_w23 := am (show w22.heap.size + 0 ≤ w23.heap.size by have := hb.size; omega); have RIx180_w23 := am (RelOwn.mk_ (base := w.heap.size) HB_w22.out.size hx1802 hx1803); have HB_w23 := am (below_then HB_w22.out HB_w22.out.size hb); have BXp0_w23 := am (blk_below BXp0_w22.out hb); have RIx30_w23 := am (RIx30_w22.out.below hb); have RIy40_w23 := am (RIy40_w22.out.below hb); have BX6_w23 := am (blk_below BX6_w22.out hb); have BX8_w23 := am (blk_below BX8_w22.out hb); have BX10_w23 := am (blk_below BX10_w22.out hb); have RIx110_w23 := am (RIx110_w22.out.below hb); have RIy70_w23 := am (RIy70_w22.out.below hb); clear HB_w22 BXp0_w22 RIx30_w22 RIy40_w22 BX6_w22 BX8_w22 BX10_w22 RIx110_w22 RIy70_w22; clear hx1802 hx1803 hb
 go_wp2_with (fail)
 (with_reducible refine (laws_toInt64S.calls k _ _ l1 l1 _ (Kd.C_below HR1.out HB_w23.out) HC1.out HT1.out).mono ?_); rintro e w24 ⟨vx190, rfl, hx190, hb⟩; obtain ⟨Ax190, cx190, hvx190⟩ := Kd.R_slice hx190; subst hvx190; have HZ_w24 := am (show w23.heap.size + 0 ≤ w24.heap.size by have := hb.size; omega); have RIx190_w24 := am (RowOwn.mk_ (base := w.heap.size) HB_w23.out.size hx190); have HB_w24 := am (below_then HB_w23.out HB_w23.out.size hb); have BXp0_w24 := am (blk_below BXp0_w23.out hb); have RIx30_w24 := am (RIx30_w23.out.below hb); have RIy40_w24 := am (RIy40_w23.out.below hb); have BX6_w24 := am (blk_below BX6_w23.out hb); have BX8_w24 := am (blk_below BX8_w23.out hb); have BX10_w24 := am (blk_below BX10_w23.out hb); have RIx110_w24 := am (RIx110_w23.out.below hb); have RIy70_w24 := am (RIy70_w23.out.below hb); have RIx180_w24 := am (RIx180_w23.out.below hb); clear HB_w23 BXp0_w23 RIx30_w23 RIy40_w23 BX6_w23 BX8_w23 BX10_w23 RIx110_w23 RIy70_w23 RIx180_w23; clear hx190 hb
 go_wp2_with (fail)
 (with_reducible refine (impl_MoveTapes.calls k t0 s0 _ _ l02 _ _ l03 _ _ l1 r0_0 r0_1 r0_2 r0_3 r1 _ (tab_below HT.out HB_w24.out) RIx180_w24.out.reads.1 RIx180_w24.out.reads.2.1 RIx180_w24.out.reads.2.2.1 RIx180_w24.out.reads.2.2.2 RIx190_w24.out.reads.1 RIx190_w24.out.reads.2 HI.out).mono ?_); rintro e w25 ⟨vy2002, vy2003, rfl, hy2002, hy2003, hb⟩; obtain ⟨Ay2002, cy2002, hvy2002⟩ := Kd.R_slice hy2002; subst hvy2002; obtain ⟨Ay2003, cy2003, hvy2003⟩ := Kd.S_slice hy2003; subst hvy2003; have HZ_w25 := am (show w24.heap.size + 0 ≤ w25.heap.size by have := hb.size; omega); have RIy200_w25 := am (RelOwn.mk_ (base := w.heap.size) HB_w24.out.size hy2002 hy2003); have HB_w25 := am (below_then HB_w24.out HB_w24.out.size hb); have BXp0_w25 := am (blk_below BXp0_w24.out hb); have RIx30_w25 := am (RIx30_w24.out.below hb); have RIy40_w25 := am (RIy40_w24.out.below hb); have BX6_w25 := am (blk_below BX6_w24.out hb); have BX8_w25 := am (blk_below BX8_w24.out hb); have BX10_w25 := am (blk_below BX10_w24.out hb); have RIx110_w25 := am (RIx110_w24.out.below hb); have RIy70_w25 := am (RIy70_w24.out.below hb); have RIx180_w25 := am (RIx180_w24.out.below hb); have RIx190_w25 := am (RIx190_w24.out.below hb); clear HB_w24 BXp0_w24 RIx30_w24 RIy40_w24 BX6_w24 BX8_w24 BX10_w24 RIx110_w24 RIy70_w24 RIx180_w24 RIx190_w24; clear hy2002 hy2003 hb
 go_upto_region 31 with (fail)
 have BX15_w26 := am (blk_new w25 (.cells #[.int .i64 r0_0, .int .i64 r0_1, .slice Ay2002 r0_2.length cy2002, .slice Ay2003 r0_3.length cy2003] 29)); have hb := below_alloc (Below.refl w25.heap.size w25) (.cells #[.int .i64 r0_0, .int .i64 r0_1, .slice Ay2002 r0_2.length cy2002, .slice Ay2003 r0_3.length cy2003] 29); have HZ_w26 := am (show w25.heap.size + 1 ≤ (w25.alloc (.cells #[.int .i64 r0_0, .int .i64 r0_1, .slice Ay2002 r0_2.length cy2002, .slice Ay2003 r0_3.length cy2003] 29)).heap.size by simp); have HB_w26 := am (below_then HB_w25.out HB_w25.out.size hb); have BXp0_w26 := am (blk_below BXp0_w25.out hb); have RIx30_w26 := am (RIx30_w25.out.below hb); have RIy40_w26 := am (RIy40_w25.out.below hb); have BX6_w26 := am (blk_below BX6_w25.out hb); have BX8_w26 := am (blk_below BX8_w25.out hb); have BX10_w26 := am (blk_below BX10_w25.out hb); have RIx110_w26 := am (RIx110_w25.out.below hb); have RIy70_w26 := am (RIy70_w25.out.below hb); have RIx180_w26 := am (RIx180_w25.out.below hb); have RIx190_w26 := am (RIx190_w25.out.below hb); have RIy200_w26 := am (RIy200_w25.out.below hb); clear HB_w25 BXp0_w25 RIx30_w25 RIy40_w25 BX6_w25 BX8_w25 BX10_w25 RIx110_w25 RIy70_w25 RIx180_w25 RIx190_w25 RIy200_w25; clear hb; generalize w25.alloc _ = w26 at *; obtain ⟨hx0_0, hx0_1, hx0_2, hx0_3⟩ := bc4 BX15_w26.out; obtain ⟨hx1_0, hx1_1, hx1_2, hx1_3⟩ := bc4 BX6_w26.out
 go_wp2_with (fail)
 clear hx0_0 hx0_1 hx0_2 hx0_3 hx1_0 hx1_1 hx1_2 hx1_3; (with_reducible refine (laws_eqRelation.calls k r0_0 r0_1 _ _ r0_2 _ _ r0_3 r0_0 r0_1 _ _ r0_2 _ _ r0_3 true _ RIy200_w26.out.reads.1 RIy200_w26.out.reads.2.1 RIy200_w26.out.reads.2.2.1 RIy200_w26.out.reads.2.2.2 RIy40_w26.out.reads.1 RIy40_w26.out.reads.2.1 RIy40_w26.out.reads.2.2.1 RIy40_w26.out.reads.2.2.2 HER.out).mono ?_); rintro e w27 ⟨rfl, hb⟩; have HZ_w27 := am (show w26.heap.size + 0 ≤ w27.heap.size by have := hb.size; omega); have HB_w27 := am (below_then HB_w26.out HB_w26.out.size hb); have BXp0_w27 := am (blk_below BXp0_w26.out hb); have RIx30_w27 := am (RIx30_w26.out.below hb); have RIy40_w27 := am (RIy40_w26.out.below hb); have BX6_w27 := am (blk_below BX6_w26.out hb); have BX8_w27 := am (blk_below BX8_w26.out hb); have BX10_w27 := am (blk_below BX10_w26.out hb); have RIx110_w27 := am (RIx110_w26.out.below hb); have RIy70_w27 := am (RIy70_w26.out.below hb); have RIx180_w27 := am (RIx180_w26.out.below hb); have RIx190_w27 := am (RIx190_w26.out.below hb); have RIy200_w27 := am (RIy200_w26.out.below hb); have BX15_w27 := am (blk_below BX15_w26.out hb); clear HB_w26 BXp0_w26 RIx30_w26 RIy40_w26 BX6_w26 BX8_w26 BX10_w26 RIx110_w26 RIy70_w26 RIx180_w26 RIx190_w26 RIy200_w26 BX15_w26; clear hb; obtain ⟨hx0_0, hx0_1, hx0_2, hx0_3⟩ := bc4 BX10_w27.out
 go_wp2_with (fail)
 clear hx0_0 hx0_1 hx0_2 hx0_3; obtain ⟨e2_, e3_, q1_, q2_, q3_, q4_⟩ := RIy70_w27.out.reads'; have hq_ := laws_heldRelation.calls k r0_0 r0_1 _ _ r0_2m _ _ r0_3m 1 m16 _ q1_ q2_ q3_ q4_ HH.out; rw [← e2_, ← e3_] at hq_; clear e2_ e3_ q1_ q2_ q3_ q4_; (with_reducible refine hq_.mono ?_); clear hq_; rintro e w28 ⟨rfl, hb⟩; have HZ_w28 := am (show w27.heap.size + 0 ≤ w28.heap.size by have := hb.size; omega); have HB_w28 := am (below_then HB_w27.out HB_w27.out.size hb); have BXp0_w28 := am (blk_below BXp0_w27.out hb); have RIx30_w28 := am (RIx30_w27.out.below hb); have RIy40_w28 := am (RIy40_w27.out.below hb); have BX6_w28 := am (blk_below BX6_w27.out hb); have BX8_w28 := am (blk_below BX8_w27.out hb); have BX10_w28 := am (blk_below BX10_w27.out hb); have RIx110_w28 := am (RIx110_w27.out.below hb); have RIy70_w28 := am (RIy70_w27.out.below hb); have RIx180_w28 := am (RIx180_w27.out.below hb); have RIx190_w28 := am (RIx190_w27.out.below hb); have RIy200_w28 := am (RIy200_w27.out.below hb); have BX15_w28 := am (blk_below BX15_w27.out hb); clear HB_w27 BXp0_w27 RIx30_w27 RIy40_w27 BX6_w27 BX8_w27 BX10_w27 RIx110_w27 RIy70_w27 RIx180_w27 RIx190_w27 RIy200_w27 BX15_w27; clear hb; go_wp2; go_ret; exact ⟨rfl, HB_w28.out⟩
theorem laws_FnExactMoveTapes.exit0 (k : Nat) (t0 s0 : Int) (A02 : Option Addr) (c02 : Nat) (l02 : List Bool) (A03 : Option Addr) (c03 : Nat) (l03 : List (List Int)) (A1 : Option Addr) (c1 : Nat) (l1 : List Int) (w : World) (htab : TabOK w) (hln : l1.length ≤ 1048576) (hr02 : Kd.C Kd.bool w A02 l02.length l02) (hc02 : l02.length ≤ c02) (hr03 : Kd.C (Kd.slice 2 (Kd.int .i64)) w A03 l03.length l03) (hc03 : l03.length ≤ c03) (hr1 : Kd.C (Kd.int .i64) w A1 l1.length l1) (hc1 : l1.length ≤ c1) (z1 : Int) (hz1 : laws_szRelation.f k t0 s0 l02 l03 1048576 = some z1)  (hsz1 : z1 < 0) :
  Calls Tryd.prog 10 #[.agg #[.int .i64 t0, .int .i64 s0, .slice A02 l02.length c02, .slice A03 l03.length c03], .slice A1 l1.length c1] w fun e w' => e = .returned (.bool true) ∧ Below w.heap.size w w' := by
 have HR02 := am hr02; have HC02 := am hc02; have HR03 := am hr03; have HC03 := am hc03; have HR1 := am hr1; have HC1 := am hc1; have HZ1 := am hz1; have HSZ1 := am hsz1; have HT := am htab; clear hr02 hc02 hr03 hc03 hr1 hc1 hz1 hsz1 htab; have HB_w := am (Below.refl w.heap.size w); have cl0 : decide ((1048576 : Int) < (l1.length : Int)) = false := decide_eq_false (by omega); have cl1 : decide (1048576 < l1.length) = false := decide_eq_false (by omega); go_enter Tryd.func10, Tryd.ntmps10
 go_wp2_with (fail)
 clear cl0 cl1 hln; have HB_w1 := am (below_alloc (Below.refl w.heap.size w) (.cells #[.int .i64 t0, .int .i64 s0, .slice A02 l02.length c02, .slice A03 l03.length c03] 25)); have BXp0_w1 : Aside0 ((((w.alloc (.cells #[.int .i64 t0, .int .i64 s0, .slice A02 l02.length c02, .slice A03 l03.length c03] 25))).heap)[w.heap.size]? = some (.cells #[.int .i64 t0, .int .i64 s0, .slice A02 l02.length c02, .slice A03 l03.length c03] 25 (0, 0))) := am (by have q_ := (blk_new w (.cells #[.int .i64 t0, .int .i64 s0, .slice A02 l02.length c02, .slice A03 l03.length c03] 25)); simpa using q_); have HZ_w1 := am (show w.heap.size + 1 ≤ ((w.alloc (.cells #[.int .i64 t0, .int .i64 s0, .slice A02 l02.length c02, .slice A03 l03.length c03] 25))).heap.size by simp); generalize (w.alloc (.cells #[.int .i64 t0, .int .i64 s0, .slice A02 l02.length c02, .slice A03 l03.length c03] 25)) = w1 at *; (with_reducible refine (laws_szRelation.calls k t0 s0 _ _ l02 _ _ l03 1048576 z1 _ (Kd.C_below HR02.out HB_w1.out) HC02.out (Kd.C_below HR03.out HB_w1.out) HC03.out HZ1.out).mono ?_); rintro e w2 ⟨rfl, hb⟩; have HZ_w2 := am (show w1.heap.size + 0 ≤ w2.heap.size by have := hb.size; omega); have HB_w2 := am (below_then HB_w1.out HB_w1.out.size hb); have BXp0_w2 := am (blk_below BXp0_w1.out hb); clear HB_w1 BXp0_w1; clear hb; have hx_ : decide (z1 < 0) = true := decide_eq_true (by have q_ := HSZ1.out; omega); go_wp2; go_ret; exact ⟨rfl, HB_w2.out⟩
theorem laws_FnExactMoveTapes.exitL (k : Nat) (t0 s0 : Int) (A02 : Option Addr) (c02 : Nat) (l02 : List Bool) (A03 : Option Addr) (c03 : Nat) (l03 : List (List Int)) (A1 : Option Addr) (c1 : Nat) (l1 : List Int) (w : World) (htab : TabOK w) (hr02 : Kd.C Kd.bool w A02 l02.length l02) (hc02 : l02.length ≤ c02) (hr03 : Kd.C (Kd.slice 2 (Kd.int .i64)) w A03 l03.length l03) (hc03 : l03.length ≤ c03) (hr1 : Kd.C (Kd.int .i64) w A1 l1.length l1) (hc1 : l1.length ≤ c1) (hln0 : 1048576 < l1.length) :
  Calls Tryd.prog 10 #[.agg #[.int .i64 t0, .int .i64 s0, .slice A02 l02.length c02, .slice A03 l03.length c03], .slice A1 l1.length c1] w fun e w' => e = .returned (.bool true) ∧ Below w.heap.size w w' := by
 have cl0 : decide ((1048576 : Int) < (l1.length : Int)) = true := decide_eq_true (by omega); have cl1 : decide (1048576 < l1.length) = true := decide_eq_true hln0; go_enter Tryd.func10, Tryd.ntmps10; go_wp2; go_ret; exact ⟨rfl, below_alloc (Below.refl w.heap.size w) (.cells #[.int .i64 t0, .int .i64 s0, .slice A02 l02.length c02, .slice A03 l03.length c03] 25)⟩
theorem laws_FnExactMoveTapes.calls (k : Nat) (t0 s0 : Int) (A02 : Option Addr) (c02 : Nat) (l02 : List Bool) (A03 : Option Addr) (c03 : Nat) (l03 : List (List Int)) (A1 : Option Addr) (c1 : Nat) (l1 : List Int) (w : World) (htab : TabOK w) (hr02 : Kd.C Kd.bool w A02 l02.length l02) (hc02 : l02.length ≤ c02) (hr03 : Kd.C (Kd.slice 2 (Kd.int .i64)) w A03 l03.length l03) (hc03 : l03.length ≤ c03) (hr1 : Kd.C (Kd.int .i64) w A1 l1.length l1) (hc1 : l1.length ≤ c1) (h : laws_FnExactMoveTapes.f k t0 s0 l02 l03 l1 = some true) :
  Calls Tryd.prog 10 #[.agg #[.int .i64 t0, .int .i64 s0, .slice A02 l02.length c02, .slice A03 l03.length c03], .slice A1 l1.length c1] w fun e w' => e = .returned (.bool true) ∧ Below w.heap.size w w' := by
 unfold laws_FnExactMoveTapes.f at h; by_cases hln0 : 1048576 < l1.length
 case pos => exact laws_FnExactMoveTapes.exitL k t0 s0 A02 c02 l02 A03 c03 l03 A1 c1 l1 w htab hr02 hc02 hr03 hc03 hr1 hc1 hln0
 rw [if_neg hln0] at h; (have hln : l1.length ≤ 1048576 := by omega); clear hln0; obtain ⟨z1, hz1, h⟩ := oB h; by_cases hsz1 : z1 < 0
 case pos => exact laws_FnExactMoveTapes.exit0 k t0 s0 A02 c02 l02 A03 c03 l03 A1 c1 l1 w htab hln hr02 hc02 hr03 hc03 hr1 hc1 z1 hz1  hsz1
 rw [if_neg hsz1] at h; by_cases ht0 : laws_toRelation.f k t0 s0 l02 l03 = some (t0, s0, l02, l03)
 case neg => rw [if_neg ht0] at h; cases h
 rw [if_pos ht0] at h; by_cases ht1 : laws_toInt64S.f k l1 = some (l1)
 case neg => rw [if_neg ht1] at h; cases h
 rw [if_pos ht1] at h; obtain ⟨⟨r0_0, r0_1, r0_2, r0_3, r1⟩, hS, h⟩ := oB h; dsimp only at h; by_cases hI : impl_MoveTapes.f k t0 s0 l02 l03 l1 = some (r0_0, r0_1, r0_2, r0_3, r1)
 case neg => rw [if_neg hI] at h; cases h
 rw [if_pos hI] at h; by_cases her : laws_eqRelation.f k r0_0 r0_1 r0_2 r0_3 r0_0 r0_1 r0_2 r0_3 = some true
 case neg => rw [if_neg her] at h; cases h
 rw [if_pos her] at h; by_cases he0 : laws_eqRelation.f k t0 s0 l02 l03 t0 s0 l02 l03 = some true
 case neg => rw [if_neg he0] at h; cases h
 rw [if_pos he0] at h; by_cases he1 : laws_eqInt64S.f k l1 l1 = some true
 case neg => rw [if_neg he1] at h; cases h
 rw [if_pos he1] at h; obtain ⟨⟨m13a, l02m⟩, hm13a, h⟩ := oB h; dsimp only at h; obtain ⟨⟨m13, l03m⟩, hm13b, h⟩ := oB h; dsimp only at h; by_cases hn13 : m13 < 0
 case pos => rw [if_pos hn13] at h; cases h
 rw [if_neg hn13] at h; obtain ⟨⟨m14, l1m⟩, hm14, h⟩ := oB h; dsimp only at h; by_cases hn14 : m14 < 0
 case pos => rw [if_pos hn14] at h; cases h
 rw [if_neg hn14] at h; obtain ⟨⟨m16a, r0_2m⟩, hm16a, h⟩ := oB h; dsimp only at h; obtain ⟨⟨m16, r0_3m⟩, hm16b, h⟩ := oB h; dsimp only at h; by_cases hn16 : m16 < 0
 case pos => rw [if_pos hn16] at h; cases h
 rw [if_neg hn16] at h; by_cases hh : laws_heldRelation.f k r0_0 r0_1 r0_2m r0_3m 1 = some m16
 case neg => rw [if_neg hh] at h; cases h
 rw [if_pos hh] at h; exact laws_FnExactMoveTapes.main k t0 s0 A02 c02 l02 A03 c03 l03 A1 c1 l1 w htab hln hr02 hc02 hr03 hc03 hr1 hc1 z1 r0_0 r0_1 r0_2 r0_3 r1 m13a l02m m13 l03m m14 l1m m16a r0_2m m16 r0_3m hz1 ht0 ht1 hS hI her he0 he1 hm13a hm13b hn13 hm14 hn14 hm16a hm16b hn16 hh hsz1
def cellsOfD : DataW Unit → Array Value
 | .agg l => (l.map fun d => match d with | .lit x => x.value | _ => .bool false).toArray
 | _ => #[]
noncomputable def layAt (w : World) (g : Nat) (d : DataW Unit) : World := { w with heap := w.heap.modify g fun
 | .cells _ t frozen => .cells (cellsOfD d) t frozen
 | o => o }
noncomputable def laidWorld (os : Os) : World :=
 layAt (layAt (layAt (World.holding Tryd.prog os ⟨#[], #[], []⟩) 1 Rows.laid_math_bits_deBruijn32tab) 2 Rows.laid_math_bits_deBruijn64tab) 0 Rows.laid_internal_strconv_uint64pow10
def laid3 : List (String × DataW Unit) := [("math/bits.deBruijn32tab", Rows.laid_math_bits_deBruijn32tab), ("math/bits.deBruijn64tab", Rows.laid_math_bits_deBruijn64tab), ("internal/strconv.uint64pow10", Rows.laid_internal_strconv_uint64pow10)]
theorem laidWorld_met (os : Os) (args : Array Value) : laidMet Tryd.prog laid3 ((laidWorld os).forCall (fun _ _ => 0) ⟨#[], args, []⟩).memory :=
 laidMet_of_run (ps := (List.range 32).map (MemPlace.cell 1) ++ (List.range 64).map (MemPlace.cell 2) ++ (List.range 20).map (MemPlace.cell 0)) 8 (by kernel_rfl) (by kernel_rfl) (by kernel_rfl)
theorem pow_data : (Rows.laid_internal_strconv_uint64pow10 : DataW Unit) = Lib.tabData .u64 Lib.pow10Tab := by kernel_rfl
theorem tab_of_laid {W : World} (h : laidMet Tryd.prog laid3 W) : Lib.TabIs Tryd.prog W "internal/strconv.uint64pow10" .u64 Lib.pow10Tab := by
 obtain ⟨ps, ⟨_, _, _, _, _, _, _, _, _, _, ⟨_, _, _, _, _, _, _, _, _, _, ⟨g', t', cs, fuel, p, q, hg', ht', hvar, hd, _, _⟩, _⟩, _⟩, _⟩ := h
 obtain rfl := Option.some.inj ((show Tryd.prog.globalNamed "internal/strconv.uint64pow10" = some 0 by kernel_rfl).symm.trans hg')
 obtain rfl := Option.some.inj ((show (Tryd.prog.globals[0]?).map (·.type) = some 146 by kernel_rfl).symm.trans ht'); rw [pow_data] at hd; unfold Lib.TabIs; rw [hvar, ← Lib.cells_of_tab Tryd.underlying146 Tryd.underlying140 (by kernel_rfl) (by kernel_rfl) hd]
theorem tabOK_of {W : World} (h : laidMet Tryd.prog laid3 W) : TabOK W := Lib.tabBelow_of_tabIs (tab_of_laid h)
open Go.ChangeShapes Go.WideShapes Go.ChangeAt Go.Deep Go.Joins
/-- The rows of a relation, as a law's world reads them. -/
def RelIn (W : World) (A2 : Option Addr) (c2 : Nat) (l2 : List Bool) (A3 : Option Addr) (c3 : Nat) (l3 : List (List Int)) : Prop :=
 Kd.C Kd.bool W A2 l2.length l2 ∧ l2.length ≤ c2 ∧ Kd.C (Kd.slice 2 (Kd.int .i64)) W A3 l3.length l3 ∧ l3.length ≤ c3 ∧ l2.length ≤ 9223372036854775807 ∧ l3.length ≤ 9223372036854775807 ∧ (∀ x ∈ l3, x.length ≤ 9223372036854775807) ∧ ∀ x ∈ l3, ∀ n ∈ x, (Lit.int .i64 n).wf = true
theorem open_bool_row {H : Type} {enc : TypeId × Value → H} {W : World} {base : Nat} {held : Bool} {fuel : Nat} {v : Value} {x : DataW H × List MemPlace} (h : DataW.trod enc Tryd.prog W base (fun _ => true) held fuel 22 [v] = some x) :
  ∃ (A : Option Addr) (c : Nat) (l : List Bool), v = .slice A l.length c ∧ Kd.C Kd.bool W A l.length l ∧ l.length ≤ c ∧ l.length ≤ 9223372036854775807 := by
 rcases open_bools Tryd.underlying22 Tryd.underlying4 (by kernel_rfl) h with ⟨hcs, _⟩ | ⟨a, len, cap, B, hcs, _, hl, hm, _, hcell⟩
 ·simp at hcs; exact ⟨none, 0, [], by simpa using hcs, ⟨rfl, by simp, fun h => absurd h (by simp)⟩, by simp, by simp⟩
 ·simp at hcs; have hm' : cap ≤ 9223372036854775807 := hm; refine ⟨some a, cap, (List.range len).map B, by simpa using hcs, ⟨rfl, by simp; omega, fun _ => ⟨a, rfl, fun j p hj => ?_⟩⟩, by simpa using hl, by simp; omega⟩; have hjl := (List.getElem?_eq_some_iff.1 hj).1; simp at hjl; refine ⟨[.bool p], rfl, rfl, fun i u hu => ?_⟩
  have hi : i = 0 := by
   have := (List.getElem?_eq_some_iff.1 hu).1; simp at this; omega
  subst hi; simp at hu hj; obtain ⟨_, hj⟩ := hj; subst hu; rw [show j * Kd.bool.sz + 0 = j by simp [show Kd.bool.sz = 1 from rfl], hcell j (by omega)]
  simp_all
theorem open_int_row {W : World} {A : Option Addr} {L C : Nat} {Z : List Int} (hL : L ≤ C) (hC : C ≤ maxLen) (hZ : Z.length = C) (hN : A = none → C = 0) (hA : ∀ a', A = some a' → ∀ c, c < C → W.cell? (a'.add c) = some (.int .i64 (Z.getD c 0))) :
  Kd.C (Kd.int .i64) W A (Z.take L).length (Z.take L) := by
 have hC' : C ≤ 9223372036854775807 := hC; refine ⟨rfl, by simp; omega, fun h => ?_⟩
 cases A with
 | none => have := hN rfl; simp at h; omega
 | some a =>
  refine ⟨a, rfl, fun j p hj => ?_⟩; have hjl := (List.getElem?_eq_some_iff.1 hj).1; simp at hjl; refine ⟨[.int .i64 p], rfl, rfl, fun i u hu => ?_⟩
  have hi : i = 0 := by
   have := (List.getElem?_eq_some_iff.1 hu).1; simp at this; omega
  subst hi; simp at hu; subst hu; rw [show j * (Kd.int .i64).sz + 0 = j by simp [show (Kd.int .i64).sz = 1 from rfl], hA a rfl j (by omega)]; rw [List.getElem?_take] at hj; rw [if_pos (by omega)] at hj; simp [List.getD_eq_getElem?_getD, hj]
theorem open_rows {H : Type} {enc : TypeId × Value → H} {W : World} {base : Nat} {held : Bool} {fuel : Nat} {v : Value} {x : DataW H × List MemPlace} (h : DataW.trod enc Tryd.prog W base (fun _ => true) held fuel 23 [v] = some x) :
  ∃ (A : Option Addr) (c : Nat) (l : List (List Int)), v = .slice A l.length c ∧ Kd.C (Kd.slice 2 (Kd.int .i64)) W A l.length l ∧ l.length ≤ c ∧ l.length ≤ 9223372036854775807 ∧ (∀ x ∈ l, x.length ≤ 9223372036854775807) ∧ ∀ x ∈ l, ∀ n ∈ x, (Lit.int .i64 n).wf = true := by
 rcases open_int_rows Tryd.underlying23 Tryd.underlying42 Tryd.underlying2 (by kernel_rfl) (by kernel_rfl) h with ⟨hcs, _⟩ | ⟨a, len, cap, A, L, C, Z, hcs, _, hl, hm, _, hr⟩
 ·simp at hcs; exact ⟨none, 0, [], by simpa using hcs, ⟨rfl, by simp, fun h => absurd h (by simp)⟩, by simp, by simp, by simp, by simp⟩
 ·simp at hcs; have hm' : cap ≤ 9223372036854775807 := hm; refine ⟨some a, cap, (List.range len).map fun r => (Z r).take (L r), by simpa using hcs, ⟨rfl, by simp; omega, fun _ => ⟨a, rfl, fun j p hj => ?_⟩⟩, by simpa using hl, by simp; omega, ?_, ?_⟩
  ·have hjl := (List.getElem?_eq_some_iff.1 hj).1; simp at hjl; obtain ⟨g1, g2, g3, g4, g5, g6, g7⟩ := hr j (by omega); simp at hj; obtain ⟨_, hj⟩ := hj; (have ep : p = (Z j).take (L j) := by simp_all); subst ep; (have el : ((Z j).take (L j)).length = L j := by simp; omega); refine ⟨[.slice (A j) ((Z j).take (L j)).length (C j)], rfl, ⟨A j, C j, rfl, by omega, open_int_row g2 g3 g4 g6 fun a' ha => (g7 a' ha).2⟩, fun i u hu => ?_⟩
   have hi : i = 0 := by
    have := (List.getElem?_eq_some_iff.1 hu).1; simp at this; omega
   subst hi; rw [List.getElem?_cons_zero] at hu; injection hu with hu; subst hu; rw [show j * (Kd.slice 2 (Kd.int .i64)).sz + 0 = j by simp [show (Kd.slice 2 (Kd.int .i64)).sz = 1 from rfl], g1, el]
  ·intro y hy; obtain ⟨r, hrm, rfl⟩ := List.mem_map.1 hy; obtain ⟨g1, g2, g3, g4, g5, g6, g7⟩ := hr r (by have := List.mem_range.1 hrm; omega); have g3' : C r ≤ 9223372036854775807 := g3; simp; omega
  ·intro y hy n hn; obtain ⟨r, hrm, rfl⟩ := List.mem_map.1 hy; obtain ⟨g1, g2, g3, g4, g5, g6, g7⟩ := hr r (by have := List.mem_range.1 hrm; omega); exact g5 n (List.mem_of_mem_take hn)
theorem open_rel {H : Type} {enc : TypeId × Value → H} {W : World} {base : Nat} {held : Bool} {r : Reach} {b0 : Nat} {v : Value} {d : DataW H} {p : List MemPlace} (hv : Value.okWide Tryd.prog W r b0 25 v) (h : DataW.Trod enc Tryd.prog W base (fun _ => true) held 25 v d p) :
  ∃ (t s : Int) (A2 : Option Addr) (c2 : Nat) (l2 : List Bool) (A3 : Option Addr) (c3 : Nat) (l3 : List (List Int)), v = .agg #[.int .i64 t, .int .i64 s, .slice A2 l2.length c2, .slice A3 l3.length c3] ∧ (Lit.int .i64 t).wf = true ∧ (Lit.int .i64 s).wf = true ∧ RelIn W A2 c2 l2 A3 c3 l3 := by
 obtain ⟨v0, v1, v2, v3, y0, y1, y2, y3, n, rfl, _, _, h0, h1, h2, h3⟩ := open_agg4 Tryd.underlying25 (by kernel_rfl) (by kernel_rfl) hv h; obtain ⟨t, e0, _, w0⟩ := DataW.trod_int Tryd.underlying2 h0; obtain ⟨s, e1, _, w1⟩ := DataW.trod_int Tryd.underlying2 h1; injection e0 with e0; injection e1 with e1; subst e0; subst e1; obtain ⟨A2, c2, l2, rfl, g1, g2, g3⟩ := open_bool_row h2; obtain ⟨A3, c3, l3, rfl, k1, k2, k3, k4, k5⟩ := open_rows h3; exact ⟨t, s, A2, c2, l2, A3, c3, l3, rfl, w0, w1, g1, g2, k1, k2, g3, k3, k4, k5⟩
theorem C_cells {α : Type} {d : Kd α} {W : World} {a : Addr} {l : List α} (enc : α → Value) (hsz : d.sz = 1) (hK : ∀ p, d.K W p [enc p]) (hl : l.length ≤ 9223372036854775807) (hc : ∀ j p, l[j]? = some p → W.cell? (a.add j) = some (enc p)) : d.C W (some a) l.length l := by
 refine ⟨rfl, hl, fun _ => ⟨a, rfl, fun j p hj => ⟨[enc p], by rw [hsz]; rfl, hK p, fun i u hu => ?_⟩⟩⟩
 have hi : i = 0 := by
  have := (List.getElem?_eq_some_iff.1 hu).1; simp at this; omega
 subst hi; (have hu' : enc p = u := by simpa using hu); subst hu'; rw [hsz, show j * 1 + 0 = j by omega]; exact hc j p hj
theorem open_ints1 {H : Type} {enc : TypeId × Value → H} {W : World} {base : Nat} {held : Bool} {r : Reach} {b0 : Nat} {v : Value} {d : DataW H} {p : List MemPlace} (hv : Value.okWide Tryd.prog W r b0 42 v) (h : DataW.Trod enc Tryd.prog W base (fun _ => true) held 42 v d p) :
  ∃ (A : Option Addr) (c : Nat) (l : List Int), v = .slice A l.length c ∧ Kd.C (Kd.int .i64) W A l.length l ∧ l.length ≤ c ∧ l.length ≤ 9223372036854775807 ∧ ∀ n ∈ l, (Lit.int .i64 n).wf = true := by
 obtain ⟨a, len, cap, rfl⟩ := okWide_slice Tryd.underlying42 hv; obtain ⟨m, hm⟩ := h
 rcases open_ints Tryd.underlying42 Tryd.underlying2 (by kernel_rfl) hm with ⟨hcs, _⟩ | ⟨a', len', cap', ss, hcs, _, hl, hmx, hsl, _, hcell, hsz⟩
 ·injection hcs with hcs; exact ⟨none, 0, [], by simpa using hcs, ⟨rfl, by simp, fun h => absurd h (by simp)⟩, by simp, by simp, by simp⟩
 ·injection hcs with hcs; simp only [if_true] at hsl; have hmx' : cap' ≤ 9223372036854775807 := hmx; (have hln : (ss.take len').length = len' := by simp; omega); refine ⟨some a', cap', ss.take len', by rw [hln]; exact hcs, ?_, by omega, by omega, fun s hs => hsz s (List.mem_of_mem_take hs)⟩; refine C_cells (d := Kd.int .i64) (Value.int .i64) rfl (fun p => rfl) (by omega) (fun j p hj => ?_); have hj1 := (List.getElem?_eq_some_iff.1 hj).1; rw [List.getElem?_take] at hj; rw [if_pos (by omega)] at hj; rw [hcell j (by omega)]; simp [List.getD_eq_getElem?_getD, hj]
section
variable {K K' : Type} [DecidableEq K] [DecidableEq K'] {φ : K → K'} {S : K → Prop}
omit [DecidableEq K] [DecidableEq K'] in
theorem mem_map_inj (hinj : ∀ a b, S a → S b → φ a = φ b → a = b) {l : List K} (hl : ∀ k ∈ l, S k) {t : K} (ht : S t) : φ t ∈ l.map φ ↔ t ∈ l := by
 constructor
 ·intro h; obtain ⟨a, ha, he⟩ := List.mem_map.1 h; exact hinj _ _ (hl a ha) ht he ▸ ha
 ·exact List.mem_map_of_mem
theorem idxOf_map_inj (hinj : ∀ a b, S a → S b → φ a = φ b → a = b) {l : List K} (hl : ∀ k ∈ l, S k) {t : K} (ht : S t) : (l.map φ).idxOf (φ t) = l.idxOf t := by
 induction l with
 | nil => rfl
 | cons a l ih =>
  rw [List.map_cons, List.idxOf_cons, List.idxOf_cons, ih (fun k hk => hl k (List.mem_cons_of_mem _ hk))]; by_cases e : a = t
  ·subst e; simp
  ·have e' : ¬ φ a = φ t := fun h => e (hinj _ _ (hl a (by simp)) ht h); rw [beq_eq_false_iff_ne.2 e, beq_eq_false_iff_ne.2 e']
theorem growRow_map (hinj : ∀ a b, S a → S b → φ a = φ b → a = b) {good : K → Bool} {good' : K' → Bool} {nx : Int → Option K} {nx' : Int → Option K'} {W : Nat}
  (hnx : ∀ c k, 0 ≤ c → c < (W : Int) → nx c = some k → S k ∧ nx' c = some (φ k) ∧ good' (φ k) = true) :
  ∀ (m : Nat) (c : Int) (l : List K) (row : List Int) (l1 : List K) (row1 : List Int), 0 ≤ c → c + m = (W : Int) → (∀ k ∈ l, S k) → growRow good nx m c l row = some (l1, row1) →
   growRow good' nx' m c (l.map φ) row = some (l1.map φ, row1) ∧ ∀ k ∈ l1, S k := by
 intro m
 induction m with
 | zero =>
  intro c l row l1 row1 _ _ hl h
  simp only [growRow, Option.some.injEq, Prod.mk.injEq] at h ⊢
  obtain ⟨rfl, rfl⟩ := h; exact ⟨⟨rfl, rfl⟩, hl⟩
 | succ m ih =>
  intro c l row l1 row1 h0 h1 hl h; simp only [growRow] at h; obtain ⟨t, ht, h⟩ := oB h
  split at h
  ·obtain ⟨hS, hn, hg⟩ := hnx c t h0 (by omega) ht; simp only [growRow, hn, Option.bind_some, hg, if_true]; rw [idxOf_map_inj hinj hl hS, List.length_map]; by_cases e : t ∈ l
   ·rw [if_pos e] at h; rw [if_pos ((mem_map_inj hinj hl hS).2 e)]; exact ih _ _ _ _ _ (by omega) (by omega) hl h
   ·rw [if_neg e] at h; rw [if_neg (fun h => e ((mem_map_inj hinj hl hS).1 h))]
    split at h
    ·next hlt =>
     rw [if_pos hlt]; have := ih _ (l ++ [t]) _ _ _ (by omega) (by omega) (by intro k hk; rcases List.mem_append.1 hk with hk | hk; exact hl k hk; simp at hk; exact hk ▸ hS) h
     simpa using this
    ·cases h
  ·cases h
theorem growL_map (hinj : ∀ a b, S a → S b → φ a = φ b → a = b) {good : K → Bool} {good' : K' → Bool} {acc : K → Option Bool} {acc' : K' → Option Bool} {next : K → Int → Option K} {next' : K' → Int → Option K'} {W : Nat}
  (hnx : ∀ k c t, S k → 0 ≤ c → c < (W : Int) → next k c = some t → S t ∧ next' (φ k) c = some (φ t) ∧ good' (φ t) = true) (hac : ∀ k b, S k → acc k = some b → acc' (φ k) = some b) :
  ∀ (f : Nat) (l : List K) (bs : List Bool) (rs : List (List Int)) (r : List Bool × List (List Int)), (∀ k ∈ l, S k) → growL good acc next W f l bs rs = some r → growL good' acc' next' W f (l.map φ) bs rs = some r := by
 intro f
 induction f with
 | zero => intro l bs rs r _ h; simp [growL] at h
 | succ f ih =>
  intro l bs rs r hl h
  simp only [growL] at h ⊢
  rw [List.getElem?_map]
  cases e : l[bs.length]? with
  | none => rw [e] at h; simpa using h
  | some k =>
   rw [e] at h
   simp only [Option.map_some] at h ⊢
   have hk : S k := hl k (List.mem_of_getElem? e); obtain ⟨p, hp, h⟩ := oB h; obtain ⟨b, hb, h⟩ := oB h; obtain ⟨hr, hS⟩ := growRow_map (W := W) hinj (fun c t c0 c1 ht => hnx k c t hk c0 c1 ht) W 0 l [] p.1 p.2 (by omega) (by omega) hl hp; rw [hr]; simp only [Option.bind_some, hac k b hk hb]; exact ih _ _ _ _ hS h
theorem growL_more {good : K → Bool} {acc : K → Option Bool} {next : K → Int → Option K} {W : Nat} : ∀ (f d : Nat) (l : List K) (bs : List Bool) (rs : List (List Int)) (r : List Bool × List (List Int)), growL good acc next W f l bs rs = some r → growL good acc next W (f + d) l bs rs = some r := by
 intro f
 induction f with
 | zero => intro d l bs rs r h; simp [growL] at h
 | succ f ih =>
  intro d l bs rs r h; rw [Nat.add_right_comm]
  simp only [growL] at h ⊢
  cases e : l[bs.length]? with
  | none => rw [e] at h; exact h
  | some k =>
   rw [e] at h
   simp only at h ⊢
   obtain ⟨p, hp, h⟩ := oB h; obtain ⟨b, hb, h⟩ := oB h; rw [hp]; simp only [Option.bind_some, hb]; exact ih d _ _ _ _ h
theorem growL_same {good : K → Bool} {acc : K → Option Bool} {next : K → Int → Option K} {W f g : Nat} {l : List K} {bs : List Bool} {rs : List (List Int)} {r s : List Bool × List (List Int)} (h : growL good acc next W f l bs rs = some r) (h2 : growL good acc next W g l bs rs = some s) : r = s := by
 have a := growL_more f g _ _ _ _ h; have b := growL_more g f _ _ _ _ h2; rw [Nat.add_comm] at b; exact Option.some.inj (a.symm.trans b)
theorem nodup_len {K : Type} [DecidableEq K] : ∀ (a b : List K), a.Nodup → (∀ k ∈ a, k ∈ b) → a.length ≤ b.length := by
 intro a
 induction a with
 | nil => intro b _ _; simp
 | cons x a ih =>
  intro b hn hs; have hx : x ∈ b := hs x (by simp); have hn' := List.nodup_cons.1 hn; have := ih (b.erase x) hn'.2 (fun k hk => (List.mem_erase_of_ne (fun e : k = x => hn'.1 (by rw [← e]; exact hk))).2 (hs k (by simp [hk]))); rw [List.length_erase_of_mem hx] at this; have := List.length_pos_of_mem hx; simp only [List.length_cons]; omega
theorem growRow_some {U : List K} (hU : U.length ≤ 1900000) {good : K → Bool} {nx : Int → Option K} {W : Nat} (hnx : ∀ c, 0 ≤ c → c < (W : Int) → ∃ t, nx c = some t ∧ good t = true ∧ t ∈ U) :
  ∀ (m : Nat) (c : Int) (l : List K) (row : List Int), 0 ≤ c → c + m = (W : Int) → l.Nodup → (∀ k ∈ l, k ∈ U) → ∃ l1 row1, growRow good nx m c l row = some (l ++ l1, row ++ row1) ∧ (l ++ l1).Nodup ∧ (∀ k ∈ l ++ l1, k ∈ U) ∧ row1.length = m ∧ ∀ x ∈ row1, 0 ≤ x ∧ x < ((l ++ l1).length : Int) := by
 intro m
 induction m with
 | zero => intro c l row _ _ hn hl; exact ⟨[], [], by simp [growRow], by simpa using hn, by simpa using hl, rfl, by simp⟩
 | succ m ih =>
  intro c l row h0 h1 hn hl; obtain ⟨t, ht, hg, hu⟩ := hnx c h0 (by omega); simp only [growRow, ht, Option.bind_some, hg, if_true]; by_cases e : t ∈ l
  ·rw [if_pos e]; obtain ⟨l1, row1, h, hn1, hl1, hr, hx⟩ := ih (c + 1) l (row ++ [(l.idxOf t : Int)]) (by omega) (by omega) hn hl; refine ⟨l1, (l.idxOf t : Int) :: row1, by simpa using h, hn1, hl1, by simp [hr], ?_⟩; intro x hx'
   rcases List.mem_cons.1 hx' with rfl | hx'
   ·have := List.idxOf_lt_length_iff.2 e; simp only [List.length_append]; omega
   ·exact hx x hx'
  ·rw [if_neg e]; have hn' : (l ++ [t]).Nodup := List.nodup_append.2 ⟨hn, by simp, fun a ha b hb => by simp at hb; subst hb; exact fun he => e (he ▸ ha)⟩
   have hl' : ∀ k ∈ l ++ [t], k ∈ U := by
    intro k hk
    rcases List.mem_append.1 hk with hk | hk
    ·exact hl k hk
    ·simp at hk; exact hk ▸ hu
   have := nodup_len _ _ hn' hl'; rw [if_pos (by simp at this; omega)]; obtain ⟨l1, row1, h, hn1, hl1, hr, hx⟩ := ih (c + 1) (l ++ [t]) (row ++ [(l.length : Int)]) (by omega) (by omega) hn' hl'; refine ⟨t :: l1, (l.length : Int) :: row1, by simpa using h, by simpa using hn1, by simpa using hl1, by simp [hr], ?_⟩; intro x hx'
   rcases List.mem_cons.1 hx' with rfl | hx'
   ·simp only [List.length_append, List.length_cons]; omega
   ·simpa using hx x hx'
theorem growL_some {U : List K} (hU : U.length ≤ 1900000) {good : K → Bool} {acc : K → Option Bool} {next : K → Int → Option K} {W : Nat} (hnx : ∀ k c, k ∈ U → 0 ≤ c → c < (W : Int) → ∃ t, next k c = some t ∧ good t = true ∧ t ∈ U) (hac : ∀ k ∈ U, ∃ b, acc k = some b) :
  ∀ (f : Nat) (l : List K) (bs : List Bool) (rs : List (List Int)), l.Nodup → (∀ k ∈ l, k ∈ U) → bs.length ≤ l.length → U.length < f + bs.length → ∃ r, growL good acc next W f l bs rs = some r := by
 intro f
 induction f with
 | zero =>
  intro l bs rs hn hl hb hf; have := nodup_len _ _ hn hl; omega
 | succ f ih =>
  intro l bs rs hn hl hb hf; simp only [growL]
  cases e : l[bs.length]? with
  | none => exact ⟨_, rfl⟩
  | some k =>
   simp only; have hk : k ∈ U := hl k (List.mem_of_getElem? e); obtain ⟨l1, row1, h, hn1, hl1, _⟩ := growRow_some hU (fun c c0 c1 => hnx k c hk c0 c1) W 0 l [] (by omega) (by omega) hn hl; obtain ⟨b, hb'⟩ := hac k hk; rw [h]; simp only [Option.bind_some, hb']; have : bs.length < l.length := (List.getElem?_eq_some_iff.1 e).1; exact ih _ _ _ hn1 hl1 (by simp; omega) (by simp; omega)
end
section
variable (W n : Nat) (ac : List Bool) (ns : List (List Int))
/-- One round: g1 parts what g parts, or what a column leads to parts by g; its values are 0 .. m - 1, each met. -/
structure Finer (g g1 : Int → Int) (m : Nat) : Prop where
 iff : ∀ i j, 0 ≤ i → i < (n : Int) → 0 ≤ j → j < (n : Int) → (g1 i = g1 j ↔ (g i = g j ∧ ∀ c, 0 ≤ c → c < (W : Int) → g (stp ns i c) = g (stp ns j c)))
 lo : ∀ i, 0 ≤ i → i < (n : Int) → 0 ≤ g1 i ∧ g1 i < (m : Int)
 met : ∀ k : Nat, k < m → ∃ i, 0 ≤ i ∧ i < (n : Int) ∧ g1 i = (k : Int)
/-- What holds of the classes all the time. -/
structure ClassOK (g : Int → Int) : Prop where
 coarse : ∀ i j, 0 ≤ i → i < (n : Int) → 0 ≤ j → j < (n : Int) → lng W ac ns i = lng W ac ns j → g i = g j
 acc : ∀ i j, 0 ≤ i → i < (n : Int) → 0 ≤ j → j < (n : Int) → g i = g j → rdOf false ac i = rdOf false ac j
/-- The classes are those of the languages. -/
def ClassEq (g : Int → Int) : Prop := ∀ i j, 0 ≤ i → i < (n : Int) → 0 ≤ j → j < (n : Int) → (g i = g j ↔ lng W ac ns i = lng W ac ns j)
variable {W n ac ns} {g g1 : Int → Int} {m : Nat}
theorem lng_stp {i j : Int} (h : lng W ac ns i = lng W ac ns j) {c : Int} (c0 : 0 ≤ c) (c1 : c < (W : Int)) : lng W ac ns (stp ns i c) = lng W ac ns (stp ns j c) := by
 funext w
 have := congrFun h (c :: w)
 simpa [lng, c0, c1] using this
theorem ClassOK.next (hT : TableOK W n ns) (h : ClassOK W n ac ns g) (hf : Finer W n ns g g1 m) : ClassOK W n ac ns g1 := by
 refine ⟨fun i j i0 i1 j0 j1 e => (hf.iff i j i0 i1 j0 j1).2 ⟨h.coarse i j i0 i1 j0 j1 e, fun c c0 c1 => ?_⟩, fun i j i0 i1 j0 j1 e => h.acc i j i0 i1 j0 j1 ((hf.iff i j i0 i1 j0 j1).1 e).1⟩; have a := hT.stpd i0 i1 c0 c1; have b := hT.stpd j0 j1 c0 c1; exact h.coarse _ _ a.1 a.2 b.1 b.2 (lng_stp e c0 c1)
/-- Numbers from 0 on that are all met lie in a list that is as long at least. -/
theorem covers_len : ∀ (m : Nat) (l : List Int), (∀ k : Nat, k < m → (k : Int) ∈ l) → m ≤ l.length := by
 intro m l h
 have := nodup_len ((List.range m).map (fun k : Nat => (k : Int))) l (List.pairwise_map.2 (List.nodup_range.imp (fun {a b} e h => e (by have h : (a : Int) = (b : Int) := h; omega)))) (by
  intro k hk; obtain ⟨a, ha, rfl⟩ := List.mem_map.1 hk
  exact h a (List.mem_range.1 ha))
 simpa using this
theorem Finer.reps (hf : Finer W n ns g g1 m) : ∃ reps : List Int, reps.length = m ∧ ∀ k : Nat, k < m → 0 ≤ rd reps k ∧ rd reps k < (n : Int) ∧ g1 (rd reps k) = (k : Int) := by
 have : ∀ d : Nat, d ≤ m → ∃ reps : List Int, reps.length = d ∧ ∀ k : Nat, k < d → 0 ≤ rd reps k ∧ rd reps k < (n : Int) ∧ g1 (rd reps k) = (k : Int) := by
  intro d
  induction d with
  | zero => exact fun _ => ⟨[], rfl, fun k hk => by omega⟩
  | succ d ih =>
   intro hd; obtain ⟨reps, hl, hr⟩ := ih (by omega); obtain ⟨i, i0, i1, hi⟩ := hf.met d (by omega); refine ⟨reps ++ [i], by simp [hl], fun k hk => ?_⟩; by_cases e : k < d
   ·(have : rd (reps ++ [i]) k = rd reps k := by simp [rd, List.getD_eq_getElem?_getD, List.getElem?_append_left (show k < reps.length by omega)]); rw [this]; exact hr k e
   ·(obtain rfl : k = d := by omega); (have : rd (reps ++ [i]) k = i := by simp [rd, List.getD_eq_getElem?_getD, ← hl]); rw [this]; exact ⟨i0, i1, hi⟩
 exact this m (Nat.le_refl _)
theorem rd_mem {l : List Int} {k : Nat} (h : k < l.length) : rd l k ∈ l := by
 simp only [rd, Int.toNat_natCast, List.getD_eq_getElem?_getD, List.getElem?_eq_getElem h, Option.getD_some]; exact List.getElem_mem h
/-- Finer classes are as many at least. -/
theorem Finer.le (hf : Finer W n ns g g1 m) {m0 : Nat} (hm : ∀ k : Nat, k < m0 → ∃ i, 0 ≤ i ∧ i < (n : Int) ∧ g i = (k : Int)) : m0 ≤ m := by
 obtain ⟨reps, hl, hr⟩ := hf.reps
 have := covers_len m0 (reps.map g) (by
  intro k hk; obtain ⟨i, i0, i1, hi⟩ := hm k hk; obtain ⟨a0, a1⟩ := hf.lo i i0 i1; (have hk1 : (g1 i).toNat < m := by omega); obtain ⟨b0, b1, b2⟩ := hr _ hk1; (have e : g1 (rd reps (g1 i).toNat) = g1 i := by rw [b2]; omega); rw [← hi, ← ((hf.iff _ _ b0 b1 i0 i1).1 e).1]
  exact List.mem_map_of_mem (rd_mem (by omega)))
 simpa [hl] using this
/-- As many classes as before: the same ones. -/
theorem Finer.same (hf : Finer W n ns g g1 m) (hm : ∀ k : Nat, k < m → ∃ i, 0 ≤ i ∧ i < (n : Int) ∧ g i = (k : Int)) {i j : Int} (i0 : 0 ≤ i) (i1 : i < (n : Int)) (j0 : 0 ≤ j) (j1 : j < (n : Int)) (h : g i = g j) : g1 i = g1 j := by
 obtain ⟨reps, hl, hr⟩ := hf.reps; refine Classical.byContradiction fun hne => ?_; obtain ⟨a0, a1⟩ := hf.lo i i0 i1; obtain ⟨b0, b1⟩ := hf.lo j j0 j1
 have key : ∀ x, 0 ≤ x → x < (n : Int) → g (rd reps (g1 x).toNat) = g x := by
  intro x x0 x1; obtain ⟨c0, c1⟩ := hf.lo x x0 x1; obtain ⟨d0, d1, d2⟩ := hr (g1 x).toNat (by omega); exact ((hf.iff _ _ d0 d1 x0 x1).1 (by rw [d2]; omega)).1
 have := covers_len m ((reps.eraseIdx (g1 j).toNat).map g) (by
  intro k hk; obtain ⟨x, x0, x1, hx⟩ := hm k hk; obtain ⟨c0, c1⟩ := hf.lo x x0 x1
  -- the place of x, or of i where x stands at j's
  have pos : ∃ p : Nat, p < m ∧ p ≠ (g1 j).toNat ∧ g (rd reps p) = (k : Int) := by
   by_cases e : g1 x = g1 j
   ·refine ⟨(g1 i).toNat, by omega, by omega, ?_⟩; rw [key i i0 i1, h, ← ((hf.iff x j x0 x1 j0 j1).1 e).1, hx]
   ·exact ⟨(g1 x).toNat, by omega, by omega, by rw [key x x0 x1, hx]⟩
  obtain ⟨p, hp, hpj, hg⟩ := pos; rw [← hg]; refine List.mem_map_of_mem ?_; rw [List.mem_eraseIdx_iff_getElem?]
  exact ⟨p, hpj, by simp [rd, List.getD_eq_getElem?_getD, List.getElem?_eq_getElem (show p < reps.length by omega)]⟩)
 rw [List.length_map, List.length_eraseIdx_of_lt (by omega)] at this; omega
theorem ClassOK.eq (hT : TableOK W n ns) (h : ClassOK W n ac ns g) (hf : Finer W n ns g g1 m) (hm : ∀ k : Nat, k < m → ∃ i, 0 ≤ i ∧ i < (n : Int) ∧ g i = (k : Int)) : ClassEq W n ac ns g1 := by
 have h1 := h.next hT hf; intro i j i0 i1 j0 j1; refine ⟨fun e => ?_, h1.coarse i j i0 i1 j0 j1⟩
 funext w
 induction w generalizing i j with
 | nil => simpa [lng] using h1.acc i j i0 i1 j0 j1 e
 | cons c w ih =>
  simp only [lng]; by_cases c0 : 0 ≤ c
  ·by_cases c1 : c < (W : Int)
   ·have a := hT.stpd i0 i1 c0 c1; have b := hT.stpd j0 j1 c0 c1; rw [ih _ _ a.1 a.2 b.1 b.2 (hf.same hm a.1 a.2 b.1 b.2 (((hf.iff i j i0 i1 j0 j1).1 e).2 c c0 c1))]
   ·simp [c1]
  ·simp [c0]
end
theorem decDigits_no44 : ∀ (u : Nat), ∀ c ∈ Lib.decDigits u, c ≠ 44 ∧ c ≠ 45 := by
 intro u
 induction u using Nat.strongRecOn with
 | _ u ih =>
  intro c hc; (have key : ∀ d < 10, UInt8.ofNat (48 + d) ≠ 44 ∧ UInt8.ofNat (48 + d) ≠ 45 := by decide); rw [Lib.decDigits] at hc
  split at hc
  ·next h =>
   obtain rfl := List.mem_singleton.1 hc; exact key u h
  ·next h =>
   rcases List.mem_append.1 hc with hc | hc
   ·exact ih (u / 10) (by omega) c hc
   ·obtain rfl := List.mem_singleton.1 hc; exact key (u % 10) (by omega)
theorem digit_inj {a b : Nat} (ha : a < 10) (hb : b < 10) (h : UInt8.ofNat (48 + a) = UInt8.ofNat (48 + b)) : a = b := by
 have := congrArg UInt8.toNat h; simp at this; omega
theorem decDigits_ne (u : Nat) : Lib.decDigits u ≠ [] := by
 rw [Lib.decDigits]
 split <;> simp
theorem decDigits_inj : ∀ (u v : Nat), Lib.decDigits u = Lib.decDigits v → u = v := by
 intro u
 induction u using Nat.strongRecOn with
 | _ u ih =>
  intro v h; rw [Lib.decDigits, Lib.decDigits.eq_def v] at h
  split at h
  ·next hu =>
   split at h
   ·next hv => exact digit_inj hu hv (by simpa using h)
   ·next hv =>
    have := List.append_inj_left' (s₁ := []) h (by simp); exact absurd this.symm (decDigits_ne _)
  ·next hu =>
   split at h
   ·next hv =>
    have := List.append_inj_left' (s₂ := []) h (by simp); exact absurd this (decDigits_ne _)
   ·next hv =>
    have h1 := List.append_inj_left' h (by simp); have h2 := List.append_inj_right' h (by simp); have := ih (u / 10) (by omega) _ h1; have := digit_inj (a := u % 10) (b := v % 10) (by omega) (by omega) (by simpa using h2); omega
theorem itoa_no44 (n : Int) : ∀ c ∈ Lib.itoa n, c ≠ 44 := by
 intro c hc; unfold Lib.itoa at hc
 split at hc
 ·rcases List.mem_cons.1 hc with rfl | hc
  ·decide
  ·exact (decDigits_no44 _ c hc).1
 ·exact (decDigits_no44 _ c hc).1
theorem itoa_inj (a b : Int) (h : Lib.itoa a = Lib.itoa b) : a = b := by
 unfold Lib.itoa at h
 split at h
 ·next ha =>
  split at h
  ·next hb =>
   injection h with _ h; have := decDigits_inj _ _ h; omega
  ·next hb => exact absurd rfl (decDigits_no44 _ 45 (by rw [← h]; simp)).2
 ·next ha =>
  split at h
  ·next hb => exact absurd rfl (decDigits_no44 _ 45 (by rw [h]; simp)).2
  ·next hb =>
   have := decDigits_inj _ _ h; omega
theorem cut44 : ∀ (a b r s : List UInt8), (∀ c ∈ a, c ≠ 44) → (∀ c ∈ b, c ≠ 44) → (r = [] ∨ ∃ t, r = 44 :: t) → (s = [] ∨ ∃ t, s = 44 :: t) → a ++ r = b ++ s → a = b ∧ r = s := by
 intro a
 induction a with
 | nil =>
  intro b r s _ hb hr hs h
  cases b with
  | nil => exact ⟨rfl, h⟩
  | cons y b =>
   rcases hr with rfl | ⟨t, rfl⟩
   ·simp at h
   ·simp only [List.nil_append, List.cons_append, List.cons.injEq] at h; exact absurd h.1.symm (hb y (by simp))
 | cons x a ih =>
  intro b r s ha hb hr hs h
  cases b with
  | nil =>
   rcases hs with rfl | ⟨t, rfl⟩
   ·simp at h
   ·simp only [List.nil_append, List.cons_append, List.cons.injEq] at h; exact absurd h.1 (ha x (by simp))
  | cons y b =>
   simp only [List.cons_append, List.cons.injEq] at h; obtain ⟨e, h2⟩ := ih b r s (fun c hc => ha c (by simp [hc])) (fun c hc => hb c (by simp [hc])) hr hs h.2; exact ⟨by rw [h.1, e], h2⟩
def tailKey (l : List Int) : List UInt8 := l.flatMap fun g => 44 :: Lib.itoa g
theorem tailKey_form (l : List Int) : tailKey l = [] ∨ ∃ t, tailKey l = 44 :: t := by
 cases l with
 | nil => exact .inl rfl
 | cons x l => exact .inr ⟨_, by simp [tailKey]; rfl⟩
theorem tailKey_inj : ∀ (k l : List Int), tailKey k = tailKey l → k = l := by
 intro k
 induction k with
 | nil =>
  intro l h
  cases l with
  | nil => rfl
  | cons y l => simp [tailKey] at h
 | cons x k ih =>
  intro l h
  cases l with
  | nil => simp [tailKey] at h
  | cons y l =>
   (have h' : Lib.itoa x ++ tailKey k = Lib.itoa y ++ tailKey l := by simpa [tailKey] using h); obtain ⟨e, h2⟩ := cut44 _ _ _ _ (itoa_no44 x) (itoa_no44 y) (tailKey_form k) (tailKey_form l) h'; rw [itoa_inj _ _ e, ih l h2]
theorem at1_in {α : Type} {d : α} {xs : List α} {i : Int} (h0 : 0 ≤ i) (h1 : i < (xs.length : Int)) : at1 d xs i = some (rdOf d xs i) := by
 unfold at1; rw [if_pos ⟨h0, h1⟩]
theorem keyL_eq (group : List Int) : ∀ (row : List Int) (key : List UInt8), (∀ q ∈ row, 0 ≤ q ∧ q < (group.length : Int)) → keyL group row key = some (key ++ tailKey (row.map (rd group))) := by
 intro row
 induction row with
 | nil => intro key _; simp [keyL, tailKey]
 | cons q r ih =>
  intro key h; have hq := h q (by simp); rw [keyL, at1_in hq.1 hq.2]; simp only [Option.bind_some]; rw [ih _ (fun q hq => h q (by simp [hq]))]; simp [tailKey, rdOf, rd]
section
variable {κ : Type} [DecidableEq κ]
def roundG : List κ → Nat → List κ → List Int → List κ × List Int
 | [], _, keys, next => (keys, next)
 | k :: ks, i, keys, next => if k ∈ keys then roundG ks (i + 1) keys (next.set i (keys.idxOf k : Int)) else roundG ks (i + 1) (keys ++ [k]) (next.set i (keys.length : Int))
theorem set_snoc {a b : List Int} {x y : Int} {i : Nat} (h : i = a.length) : (a ++ y :: b).set i x = a ++ x :: b := by
 subst h; simp
theorem roundG_eq : ∀ (ks : List κ) (i : Nat) (keys : List κ) (done rest : List Int), done.length = i → rest.length = ks.length → keys.Nodup →
  ∃ D, roundG ks i keys (done ++ rest) = (keys ++ D, done ++ ks.map fun k => ((keys ++ D).idxOf k : Int)) ∧ (keys ++ D).Nodup ∧ (∀ k ∈ ks, k ∈ keys ++ D) ∧ ∀ d ∈ D, d ∈ ks := by
 intro ks
 induction ks with
 | nil =>
  intro i keys done rest h1 h2 h3; (have : rest = [] := by cases rest; rfl; simp at h2); subst this; exact ⟨[], by simp [roundG], by simpa using h3, by simp, by simp⟩
 | cons k ks ih =>
  intro i keys done rest h1 h2 h3
  cases rest with
  | nil => simp at h2
  | cons y rest =>
   simp only [roundG]; rw [set_snoc h1.symm, set_snoc h1.symm]; by_cases e : k ∈ keys
   ·rw [if_pos e]; obtain ⟨D, hr, hn, hk, hd⟩ := ih (i + 1) keys (done ++ [(keys.idxOf k : Int)]) rest (by simp [h1]) (by simpa using h2) h3; refine ⟨D, ?_, hn, ?_, fun d hd' => by simp [hd d hd']⟩
    ·rw [show done ++ (keys.idxOf k : Int) :: rest = done ++ [(keys.idxOf k : Int)] ++ rest by simp, hr]; simp [List.idxOf_append, e]
    ·intro x hx
     rcases List.mem_cons.1 hx with rfl | hx
     ·simp [e]
     ·exact hk x hx
   ·rw [if_neg e]; have hn' : (keys ++ [k]).Nodup := List.nodup_append.2 ⟨h3, by simp, fun a ha b hb => by simp at hb; subst hb; exact fun he => e (he ▸ ha)⟩; obtain ⟨D, hr, hn, hk, hd⟩ := ih (i + 1) (keys ++ [k]) (done ++ [(keys.length : Int)]) rest (by simp [h1]) (by simpa using h2) hn'; refine ⟨k :: D, ?_, by simpa using hn, ?_, ?_⟩
    ·rw [show done ++ (keys.length : Int) :: rest = done ++ [(keys.length : Int)] ++ rest by simp, hr]; simp [List.idxOf_append, e]
    ·intro x hx
     rcases List.mem_cons.1 hx with rfl | hx
     ·simp
     ·simpa using hk x hx
    ·intro d hd'
     rcases List.mem_cons.1 hd' with rfl | hd'
     ·simp
     ·simp [hd d hd']
/-- A round over keys that tell what 'Finer' asks. -/
theorem round_finer {W n : Nat} {ns : List (List Int)} {g : Int → Int} {ks : List κ} (hl : ks.length = n)
  (hk : ∀ i j : Nat, i < n → j < n → (ks[i]? = ks[j]? ↔ (g i = g j ∧ ∀ c, 0 ≤ c → c < (W : Int) → g (stp ns i c) = g (stp ns j c)))) :
  ∃ D l, roundG ks 0 [] (List.replicate n 0) = (D, l) ∧ l.length = n ∧ D.length ≤ n ∧ Finer W n ns g (rd l) D.length := by
 obtain ⟨D, hr, hn, hm, hd⟩ := roundG_eq ks 0 [] [] (List.replicate n 0) rfl (by simp [hl]) (by simp); simp only [List.nil_append] at hr hn hm hd; refine ⟨D, _, hr, by simp [hl], ?_, ?_⟩
 ·have := nodup_len D ks hn hd; omega
 have hrd : ∀ i : Nat, i < n → ∃ k, ks[i]? = some k ∧ k ∈ D ∧ rd (ks.map fun k => (D.idxOf k : Int)) i = (D.idxOf k : Int) := by
  intro i hi; (have hi' : i < ks.length := by omega); refine ⟨ks[i], List.getElem?_eq_getElem hi', hm _ (List.getElem_mem hi'), ?_⟩; simp [rd, List.getD_eq_getElem?_getD, List.getElem?_eq_getElem hi']
 have cast : ∀ i : Int, 0 ≤ i → i < (n : Int) → ∃ m : Nat, i = (m : Int) ∧ m < n := fun i h0 h1 => ⟨i.toNat, by omega, by omega⟩; refine ⟨?_, ?_, ?_⟩
 ·intro i j i0 i1 j0 j1; obtain ⟨i, rfl, hi⟩ := cast i i0 i1; obtain ⟨j, rfl, hj⟩ := cast j j0 j1; obtain ⟨a, ha, ham, har⟩ := hrd i hi; obtain ⟨b, hb, hbm, hbr⟩ := hrd j hj; rw [har, hbr, ← hk i j hi hj, ha, hb]; constructor
  ·intro h; (have h' : D.idxOf a = D.idxOf b := by omega); (have e1 : D[D.idxOf a]? = some a := by rw [List.getElem?_eq_getElem (List.idxOf_lt_length_iff.2 ham), List.getElem_idxOf]); (have e2 : D[D.idxOf b]? = some b := by rw [List.getElem?_eq_getElem (List.idxOf_lt_length_iff.2 hbm), List.getElem_idxOf]); rw [← Option.some.inj (e1.symm.trans ((congrArg (fun k => D[k]?) h').trans e2))]
  ·intro h; injection h with h; rw [h]
 ·intro i i0 i1; obtain ⟨i, rfl, hi⟩ := cast i i0 i1; obtain ⟨a, ha, ham, har⟩ := hrd i hi; rw [har]; have := List.idxOf_lt_length_iff.2 ham; omega
 ·intro k hkD; have hmem : D[k] ∈ ks := hd _ (List.getElem_mem hkD); obtain ⟨i, hi, he⟩ := List.getElem_of_mem hmem; refine ⟨(i : Int), by omega, by omega, ?_⟩; obtain ⟨a, ha, ham, har⟩ := hrd i (by omega); rw [har]; rw [List.getElem?_eq_getElem hi, he] at ha; obtain rfl := Option.some.inj ha; rw [hn.idxOf_getElem]
end
def keysM (group : List Int) : List (List Int) → Nat → List (List UInt8)
 | [], _ => []
 | row :: rs, i => (Lib.itoa (rd group i) ++ tailKey (row.map (rd group))) :: keysM group rs (i + 1)
theorem keysM_len (group : List Int) : ∀ rs i, (keysM group rs i).length = rs.length := by
 intro rs
 induction rs with
 | nil => intro i; rfl
 | cons row rs ih => intro i; simp [keysM, ih]
theorem keysM_at (group : List Int) : ∀ (rs : List (List Int)) (i j : Nat), (keysM group rs i)[j]? = (rs[j]?).map fun row => Lib.itoa (rd group ((i + j : Nat) : Int)) ++ tailKey (row.map (rd group)) := by
 intro rs
 induction rs with
 | nil => intro i j; simp [keysM]
 | cons row rs ih =>
  intro i j
  cases j with
  | zero => simp [keysM]
  | succ j =>
   simp only [keysM, List.getElem?_cons_succ, ih]; rw [show i + 1 + j = i + (j + 1) by omega]
theorem roundM_eq (group : List Int) : ∀ (rs : List (List Int)) (i : Nat) (keys : List (List UInt8)) (next : List Int), i + rs.length ≤ group.length → (∀ row ∈ rs, ∀ q ∈ row, 0 ≤ q ∧ q < (group.length : Int)) → roundM group rs i keys next = some (roundG (keysM group rs i) i keys next) := by
 intro rs
 induction rs with
 | nil => intro i keys next _ _; rfl
 | cons row rs ih =>
  intro i keys next hl h; simp only [List.length_cons] at hl; rw [roundM, at1_in (xs := group) (i := (i : Int)) (by omega) (by omega)]; simp only [Option.bind_some]; rw [keyL_eq group row _ (h row (by simp))]; simp only [Option.bind_some, keysM, roundG]; have e : rdOf 0 group (i : Int) = rd group (i : Int) := rfl; rw [e]; unfold idxG
  split
  ·exact ih (i + 1) _ _ (by omega) (fun r hr => h r (by simp [hr]))
  ·exact ih (i + 1) _ _ (by omega) (fun r hr => h r (by simp [hr]))
theorem rd_map {l : List Int} {g : Int → Int} {c : Int} (c0 : 0 ≤ c) (c1 : c < (l.length : Int)) : rd (l.map g) c = g (rd l c) := by
 (have : c.toNat < l.length := by omega); simp [rd, List.getD_eq_getElem?_getD, List.getElem?_eq_getElem this]
theorem map_ext_rd {l k : List Int} {g : Int → Int} {W : Nat} (hl : l.length = W) (hk : k.length = W) : l.map g = k.map g ↔ ∀ c, 0 ≤ c → c < (W : Int) → g (rd l c) = g (rd k c) := by
 constructor
 ·intro h c c0 c1; rw [← rd_map (l := l) (g := g) c0 (by omega), ← rd_map (l := k) (g := g) c0 (by omega), h]
 ·intro h; refine List.ext_getElem (by simp [hl, hk]) fun i h1 h2 => ?_; simp only [List.length_map] at h1 h2; have := h (i : Int) (by omega) (by omega)
  simpa [rd, List.getD_eq_getElem?_getD, List.getElem?_eq_getElem h1, List.getElem?_eq_getElem h2] using this
theorem roundM_finer {W n : Nat} {ns : List (List Int)} (hT : TableOK W n ns) {group : List Int} (hg : group.length = n) :
  ∃ D l, roundM group ns 0 [] (List.replicate group.length 0) = some (D, l) ∧ l.length = n ∧ D.length ≤ n ∧ Finer W n ns (rd group) (rd l) D.length := by
 have hks : (keysM group ns 0).length = n := by rw [keysM_len, hT.1]
 obtain ⟨D, l, hr, hl, hD, hf⟩ := round_finer (W := W) (ns := ns) (g := rd group) hks (by
  intro i j hi hj; (have hi' : i < ns.length := by rw [hT.1]; exact hi); (have hj' : j < ns.length := by rw [hT.1]; exact hj); rw [keysM_at, keysM_at, List.getElem?_eq_getElem hi', List.getElem?_eq_getElem hj']; simp only [Option.map_some, Option.some.injEq, Nat.zero_add]; (have ei : ∀ c, stp ns (i : Int) c = rd ns[i] c := fun c => by simp [stp, List.getD_eq_getElem?_getD, List.getElem?_eq_getElem hi']); (have ej : ∀ c, stp ns (j : Int) c = rd ns[j] c := fun c => by simp [stp, List.getD_eq_getElem?_getD, List.getElem?_eq_getElem hj']); simp only [ei, ej]; rw [← map_ext_rd (hT.2 _ (List.getElem_mem hi')).1 (hT.2 _ (List.getElem_mem hj')).1]; constructor
  ·intro h; obtain ⟨a, b⟩ := cut44 _ _ _ _ (itoa_no44 _) (itoa_no44 _) (tailKey_form _) (tailKey_form _) h; exact ⟨itoa_inj _ _ a, tailKey_inj _ _ b⟩
  ·intro h
   rw [h.1, h.2])
 refine ⟨D, l, ?_, hl, hD, hf⟩; rw [roundM_eq group ns 0 [] _ (by rw [hT.1]; omega) (fun row hrow q hq => by have := (hT.2 row hrow).2 q hq; omega), hg, hr]
theorem mergeL_some {W n : Nat} {ac : List Bool} {ns : List (List Int)} (hT : TableOK W n ns) : ∀ (f count : Nat) (group : List Int), group.length = n → ClassOK W n ac ns (rd group) → count ≤ n → (∀ k : Nat, k < count → ∃ i, 0 ≤ i ∧ i < (n : Int) ∧ rd group i = (k : Int)) → n + 1 ≤ f + count →
  ∃ g, mergeL ns f count group = some g ∧ g.length = n ∧ ClassEq W n ac ns (rd g) ∧ ∀ i, 0 ≤ i → i < (n : Int) → 0 ≤ rd g i ∧ rd g i < (n : Int) := by
 intro f
 induction f with
 | zero => intro count group _ _ h1 _ h2; omega
 | succ f ih =>
  intro count group hg hC hc hm hf; obtain ⟨D, l, hr, hl, hD, hfin⟩ := roundM_finer hT hg; simp only [mergeL, hr, Option.bind_some]; by_cases e : D.length = count
  ·rw [if_pos e]; subst e; exact ⟨l, rfl, hl, hC.eq hT hfin hm, fun i i0 i1 => by have := hfin.lo i i0 i1; omega⟩
  ·rw [if_neg e]; have := hfin.le hm; exact ih _ _ hl (hC.next hT hfin) hD hfin.met (by omega)
theorem bitL_class {W n : Nat} {ac : List Bool} {ns : List (List Int)} (hn : ac.length = n) : ClassOK W n ac ns (rd (bitL ac)) := by
 have e : ∀ i : Int, rd (bitL ac) i = if rdOf false ac i then 1 else 0 := by
  intro i; unfold rd bitL rdOf; rw [List.getD_eq_getElem?_getD, List.getD_eq_getElem?_getD, List.getElem?_map]
  cases ac[i.toNat]? <;> simp
 refine ⟨fun i j i0 i1 j0 j1 h => ?_, fun i j i0 i1 j0 j1 h => ?_⟩
 ·have := congrFun h []; simp only [lng] at this; rw [e, e, this]
 ·rw [e, e] at h
  revert h
  cases rdOf false ac i <;> cases rdOf false ac j <;> simp
/-- Each class has one of its states. -/
theorem oneL_some {n m : Nat} {gr : List Int} (hgl : gr.length = n) (hgr : ∀ x ∈ gr, 0 ≤ x ∧ x < (m : Int)) : ∀ (l : List Int) (i : Nat) (one : List Int), (∀ j : Nat, j < l.length → l[j]? = gr[i + j]?) → i + l.length = n → one.length = m → (∀ g ∈ l, 0 ≤ g ∧ g < (m : Int)) →
  (∀ j : Nat, j < i → ∀ x, gr[j]? = some x → 0 ≤ rd one x ∧ rd one x < (n : Int) ∧ rd gr (rd one x) = x) →
  ∃ o, oneL l i one = some o ∧ o.length = m ∧ ∀ j : Nat, j < n → ∀ x, gr[j]? = some x → 0 ≤ rd o x ∧ rd o x < (n : Int) ∧ rd gr (rd o x) = x := by
 intro l
 induction l with
 | nil =>
  intro i one h1 h2 h3 h4 h5; simp only [List.length_nil, Nat.add_zero] at h2; subst h2; exact ⟨one, rfl, h3, h5⟩
 | cons g l ih =>
  intro i one h1 h2 h3 h4 h5; have hg := h4 g (by simp); (have hgi : gr[i]? = some g := by simpa using (h1 0 (by simp)).symm); rw [oneL, if_pos ⟨hg.1, by omega⟩]
  have rds : ∀ x, 0 ≤ x → rd (one.set g.toNat (i : Int)) x = if x = g then (i : Int) else rd one x := by
   intro x x0; unfold rd; rw [List.getD_eq_getElem?_getD, List.getD_eq_getElem?_getD, List.getElem?_set]; by_cases e : x = g
   ·subst e; rw [if_pos rfl, if_pos rfl, if_pos (by omega)]; simp
   ·rw [if_neg (by omega), if_neg e]
  refine ih (i + 1) _ (fun j hj => ?_) (by simp only [List.length_cons] at h2; omega) (by simpa using h3) (fun g hg => h4 g (by simp [hg])) ?_
  ·have := h1 (j + 1) (by simp; omega); rw [List.getElem?_cons_succ] at this; rw [this]
   congr 1
   omega
  ·intro j hj x hx; have hx0 : 0 ≤ x := (hgr x (List.mem_of_getElem? hx)).1; rw [rds x hx0]; by_cases e : x = g
   ·rw [if_pos e]; subst e; simp only [List.length_cons] at h2; exact ⟨by omega, by omega, by simp [rd, List.getD_eq_getElem?_getD, hgi]⟩
   ·rw [if_neg e]; refine h5 j ?_ x hx; by_cases e2 : j = i
    ·subst e2; rw [hgi] at hx; exact absurd (Option.some.inj hx).symm e
    ·omega
open Classical in
/-- The tidy table of a language: its states are languages. -/
noncomputable def tidyD (W f : Nat) (L : List Int → Bool) : Option (List Bool × List (List Int)) :=
 growL (fun _ => true) (fun L => some (L [])) (fun L c => some fun w => L (c :: w)) W f [L] [] []
theorem tidyD_same {W f g : Nat} {L : List Int → Bool} {r s : List Bool × List (List Int)} (h : tidyD W f L = some r) (h2 : tidyD W g L = some s) : r = s := by
 classical exact growL_same h h2
theorem rd_of {l : List Int} {i : Nat} {x : Int} (h : l[i]? = some x) : rd l (i : Int) = x := by
 simp [rd, List.getD_eq_getElem?_getD, h]
theorem get_rd {l : List Int} {i : Int} (h0 : 0 ≤ i) (h1 : i < (l.length : Int)) : l[i.toNat]? = some (rd l i) := by
 (have : i.toNat < l.length := by omega); simp [rd, List.getD_eq_getElem?_getD, List.getElem?_eq_getElem this]
theorem merged_law {W n : Nat} {ac : List Bool} {ns : List (List Int)} (hT : TableOK W n ns) (hn : ac.length = n) (h1 : n ≤ 1900000) {start : Int} (s0 : 0 ≤ start) (s1 : start < (n : Int)) {f : Nat} (hf : n + 2 ≤ f) :
  ∃ r, mergedF W f start ac ns = some r ∧ tidyD W f (lng W ac ns start) = some r := by
 obtain ⟨gr, hg, hgl, hE, hb⟩ := mergeL_some (W := W) (ac := ac) hT f 0 (bitL ac) (by simp [bitL, hn]) (bitL_class hn) (by omega) (fun k hk => by omega) (by omega)
 have hgr : ∀ x ∈ gr, 0 ≤ x ∧ x < (n : Int) := by
  intro x hx; obtain ⟨i, hi, he⟩ := List.getElem_of_mem hx; have := hb (i : Int) (by omega) (by omega); rw [rd_of (x := x) (by rw [List.getElem?_eq_getElem hi, he])] at this; exact this
 obtain ⟨o, ho, hol, hoo⟩ := oneL_some (n := n) (m := n) hgl hgr gr 0 (List.replicate n 0) (fun j _ => by rw [Nat.zero_add]) (by omega) (by simp) hgr (fun j hj => by omega)
 have one : ∀ i, 0 ≤ i → i < (n : Int) → 0 ≤ rd o (rd gr i) ∧ rd o (rd gr i) < (n : Int) ∧ rd gr (rd o (rd gr i)) = rd gr i := by
  intro i i0 i1; exact hoo i.toNat (by omega) _ (get_rd i0 (by omega))
 have lone : ∀ i, 0 ≤ i → i < (n : Int) → lng W ac ns (rd o (rd gr i)) = lng W ac ns i := by
  intro i i0 i1; obtain ⟨a, b, c⟩ := one i i0 i1; exact (hE _ _ a b i0 i1).1 c
 have hacc : ∀ i, 0 ≤ i → i < (n : Int) → accM o ac (rd gr i) = some (rdOf false ac i) := by
  intro i i0 i1; obtain ⟨a, b, c⟩ := one i i0 i1; obtain ⟨d, e⟩ := hb i i0 i1; unfold accM; rw [if_pos d, if_pos (by omega), if_pos a, if_pos (by omega)]; have := congrFun (lone i i0 i1) []; simp only [lng] at this; rw [this]
 have hnext : ∀ i c, 0 ≤ i → i < (n : Int) → 0 ≤ c → c < (W : Int) → ∃ j, 0 ≤ j ∧ j < (n : Int) ∧ nextM gr o ns (rd gr i) c = some (rd gr j) ∧ lng W ac ns j = fun w => lng W ac ns i (c :: w) := by
  intro i c i0 i1 c0 c1; obtain ⟨a, b, h⟩ := one i i0 i1; obtain ⟨d, e⟩ := hb i i0 i1; have hs := hT.stpd a b c0 c1; refine ⟨stp ns (rd o (rd gr i)) c, hs.1, hs.2, ?_, ?_⟩
  ·have hrow := hT.row a b; unfold nextM; rw [at1_in d (by omega)]; simp only [Option.bind_some]; rw [show rdOf 0 o (rd gr i) = rd o (rd gr i) from rfl, at1_in a (by rw [hT.1]; exact b)]; simp only [Option.bind_some]; rw [show rdOf [] ns (rd o (rd gr i)) = ns.getD (rd o (rd gr i)).toNat [] from rfl, at1_in c0 (by rw [(hT.2 _ hrow).1]; exact c1)]; simp only [Option.bind_some]; exact at1_in (i := stp ns (rd o (rd gr i)) c) hs.1 (by omega)
  ·funext w
   have := congrFun (lone i i0 i1) (c :: w); rw [← this]; simp [lng, c0, c1]
 have hin : ∀ i, 0 ≤ i → i < (n : Int) → inI64 (rd gr i) = true := by
  intro i i0 i1; obtain ⟨d, e⟩ := hb i i0 i1; simp only [inI64, Bool.and_eq_true, decide_eq_true_eq]; omega
 have total : ∃ r, growL inI64 (accM o ac) (nextM gr o ns) W f [rd gr start] [] [] = some r := by
  refine growL_some (U := gr) (by omega) (fun k c hk c0 c1 => ?_) (fun k hk => ?_) f _ [] [] (by simp) (by intro k hk; simp at hk; subst hk; exact List.mem_of_getElem? (get_rd s0 (by omega))) (by simp) (by simp; omega)
  ·obtain ⟨i, hi, he⟩ := List.getElem_of_mem hk; have ei : rd gr (i : Int) = k := rd_of (by rw [List.getElem?_eq_getElem hi, he]); obtain ⟨j, j0, j1, hj, _⟩ := hnext i c (by omega) (by omega) c0 c1; rw [ei] at hj; exact ⟨_, hj, hin j j0 j1, List.mem_of_getElem? (get_rd j0 (by omega))⟩
  ·obtain ⟨i, hi, he⟩ := List.getElem_of_mem hk; have ei : rd gr (i : Int) = k := rd_of (by rw [List.getElem?_eq_getElem hi, he]); exact ⟨_, by rw [← ei]; exact hacc i (by omega) (by omega)⟩
 obtain ⟨r, hr⟩ := total; refine ⟨r, ?_, ?_⟩
 ·unfold mergedF; rw [hg]; simp only [Option.bind_some]; rw [hgl, ho]; simp only [Option.bind_some]; rw [at1_in s0 (by omega)]; simp only [Option.bind_some]; rw [show rdOf 0 gr start = rd gr start from rfl, if_pos (hin start s0 s1), hr]
 ·classical
  have := growL_map (φ := fun k => lng W ac ns (rd o k)) (S := fun k => ∃ i, 0 ≤ i ∧ i < (n : Int) ∧ rd gr i = k) (K' := List Int → Bool) (good' := fun _ => true) (acc' := fun L => some (L [])) (next' := fun L c => some fun w => L (c :: w)) (W := W)
   (by
    rintro a b ⟨i, i0, i1, rfl⟩ ⟨j, j0, j1, rfl⟩ h; have h' : lng W ac ns (rd o (rd gr i)) = lng W ac ns (rd o (rd gr j)) := h; rw [lone i i0 i1, lone j j0 j1] at h'
    exact (hE i j i0 i1 j0 j1).2 h')
   (by
    rintro k c t ⟨i, i0, i1, rfl⟩ c0 c1 ht; obtain ⟨j, j0, j1, hj, hl⟩ := hnext i c i0 i1 c0 c1; rw [hj] at ht; obtain rfl := Option.some.inj ht; refine ⟨⟨j, j0, j1, rfl⟩, ?_, rfl⟩; show some (fun w => lng W ac ns (rd o (rd gr i)) (c :: w)) = some (lng W ac ns (rd o (rd gr j)))
    rw [lone i i0 i1, lone j j0 j1, hl])
   (by
    rintro k b ⟨i, i0, i1, rfl⟩ hb'; rw [hacc i i0 i1] at hb'; obtain rfl := Option.some.inj hb'; show some (lng W ac ns (rd o (rd gr i)) []) = _; rw [lone i i0 i1]
    rfl)
   f [rd gr start] [] [] r (by intro k hk; simp at hk; subst hk; exact ⟨start, s0, s1, rfl⟩) hr
  have e : ([rd gr start].map fun k => lng W ac ns (rd o k)) = [lng W ac ns start] := by
   simp only [List.map_cons, List.map_nil]; rw [lone start s0 s1]
  rw [e] at this; exact this
section
variable {K : Type} [DecidableEq K] {good : K → Bool} {acc : K → Option Bool} {next : K → Int → Option K} {W : Nat}
theorem growRow_row {nx : Int → Option K} : ∀ (m : Nat) (c : Int) (l : List K) (row : List Int) (l1 : List K) (row1 : List Int), growRow good nx m c l row = some (l1, row1) → l.length ≤ 1900000 →
  ∃ d e, l1 = l ++ d ∧ row1 = row ++ e ∧ e.length = m ∧ l1.length ≤ 1900000 ∧ (∀ k ∈ d, ∃ j : Nat, j < m ∧ nx (c + j) = some k) ∧ ∀ j : Nat, j < m → ∃ (t : K) (i : Nat), nx (c + j) = some t ∧ e[j]? = some (i : Int) ∧ l1[i]? = some t := by
 intro m
 induction m with
 | zero =>
  intro c l row l1 row1 h hl; simp only [growRow, Option.some.injEq, Prod.mk.injEq] at h; obtain ⟨rfl, rfl⟩ := h; exact ⟨[], [], by simp, by simp, rfl, hl, by simp, by simp⟩
 | succ m ih =>
  intro c l row l1 row1 h hl; simp only [growRow] at h; obtain ⟨t, ht, h⟩ := oB h
  split at h
  ·split at h
   ·next e =>
    obtain ⟨d, e1, rfl, rfl, hm, hl1, hd, hj⟩ := ih _ _ _ _ _ h hl; refine ⟨d, (l.idxOf t : Int) :: e1, rfl, by simp, by simp [hm], hl1, ?_, ?_⟩
    ·intro k hk; obtain ⟨j, hj1, hj2⟩ := hd k hk; exact ⟨j + 1, by omega, by rw [← hj2]; congr 1; omega⟩
    ·intro j hjm
     cases j with
     | zero => exact ⟨t, l.idxOf t, by simpa using ht, by simp, by rw [List.getElem?_append_left (List.idxOf_lt_length_iff.2 e), List.getElem?_eq_getElem (List.idxOf_lt_length_iff.2 e), List.getElem_idxOf]⟩
     | succ j =>
      obtain ⟨t', i, h1, h2, h3⟩ := hj j (by omega); exact ⟨t', i, by rw [← h1]; congr 1; omega, by simpa using h2, h3⟩
   ·split at h
    ·next e hlt =>
     obtain ⟨d, e1, rfl, rfl, hm, hl1, hd, hj⟩ := ih _ _ _ _ _ h (by simp; omega); refine ⟨t :: d, (l.length : Int) :: e1, by simp, by simp, by simp [hm], hl1, ?_, ?_⟩
     ·intro k hk
      rcases List.mem_cons.1 hk with rfl | hk
      ·exact ⟨0, by omega, by simpa using ht⟩
      ·obtain ⟨j, hj1, hj2⟩ := hd k hk; exact ⟨j + 1, by omega, by rw [← hj2]; congr 1; omega⟩
     ·intro j hjm
      cases j with
      | zero => exact ⟨t, l.length, by simpa using ht, by simp, by simp⟩
      | succ j =>
       obtain ⟨t', i, h1, h2, h3⟩ := hj j (by omega); exact ⟨t', i, by rw [← h1]; congr 1; omega, by simpa using h2, h3⟩
    ·cases h
  ·cases h
/-- The rows and marks made so far, of the states l. -/
structure GrownOK (acc : K → Option Bool) (next : K → Int → Option K) (W : Nat) (S : K → Prop) (l : List K) (bs : List Bool) (rs : List (List Int)) : Prop where
 len : rs.length = bs.length
 le : bs.length ≤ l.length
 few : l.length ≤ 1900000
 all : ∀ k ∈ l, S k
 acc : ∀ (i : Nat) b, bs[i]? = some b → ∃ k, l[i]? = some k ∧ acc k = some b
 row : ∀ (i : Nat) row, rs[i]? = some row → row.length = W ∧ ∃ k, l[i]? = some k ∧ ∀ j : Nat, j < W → ∃ (t : K) (q : Nat), next k j = some t ∧ row[j]? = some (q : Int) ∧ l[q]? = some t
theorem get_app {α : Type} {l d : List α} {i : Nat} {k : α} (h : l[i]? = some k) : (l ++ d)[i]? = some k := by
 rw [List.getElem?_append_left (List.getElem?_eq_some_iff.1 h).1]; exact h
theorem growL_grown {S : K → Prop} (hS : ∀ k c t, S k → 0 ≤ c → c < (W : Int) → next k c = some t → S t) : ∀ (f : Nat) (l : List K) (bs : List Bool) (rs : List (List Int)) (r : List Bool × List (List Int)), GrownOK acc next W S l bs rs → growL good acc next W f l bs rs = some r →
  ∃ d, GrownOK acc next W S (l ++ d) r.1 r.2 ∧ r.1.length = (l ++ d).length := by
 intro f
 induction f with
 | zero => intro l bs rs r _ h; simp [growL] at h
 | succ f ih =>
  intro l bs rs r hG h; simp only [growL] at h
  cases e : l[bs.length]? with
  | none =>
   rw [e] at h; obtain rfl := Option.some.inj h; refine ⟨[], by simpa using hG, ?_⟩; have := List.getElem?_eq_none_iff.1 e; have := hG.le; simp; omega
  | some k =>
   rw [e] at h; simp only at h; obtain ⟨p, hp, h⟩ := oB h; obtain ⟨b, hb, h⟩ := oB h; obtain ⟨p1, p2⟩ := p; obtain ⟨d, e1, rfl, rfl, hm, hl1, hd, hj⟩ := growRow_row _ _ _ _ _ _ hp hG.few; have hk : S k := hG.all k (List.mem_of_getElem? e); have hlt := (List.getElem?_eq_some_iff.1 e).1
   have hG' : GrownOK acc next W S (l ++ d) (bs ++ [b]) (rs ++ [p2]) := by
    refine ⟨by simp [hG.len], by simp; omega, hl1, ?_, ?_, ?_⟩
    ·intro x hx
     rcases List.mem_append.1 hx with hx | hx
     ·exact hG.all x hx
     ·obtain ⟨j, hj1, hj2⟩ := hd x hx; exact hS k _ x hk (by omega) (by omega) hj2
    ·intro i b' hb'; by_cases ei : i < bs.length
     ·rw [List.getElem?_append_left ei] at hb'; obtain ⟨k', h1, h2⟩ := hG.acc i b' hb'; exact ⟨k', get_app h1, h2⟩
     ·have hi : i = bs.length := by
       have := (List.getElem?_eq_some_iff.1 hb').1; simp at this; omega
      subst hi; rw [List.getElem?_append_right (Nat.le_refl _)] at hb'; simp at hb'; subst hb'; exact ⟨k, get_app e, hb⟩
    ·intro i row hr; by_cases ei : i < rs.length
     ·rw [List.getElem?_append_left ei] at hr; obtain ⟨h0, k', h1, h2⟩ := hG.row i row hr; refine ⟨h0, k', get_app h1, fun j hjW => ?_⟩; obtain ⟨t, q, a, b', c⟩ := h2 j hjW; exact ⟨t, q, a, b', get_app c⟩
     ·have hi : i = rs.length := by
       have := (List.getElem?_eq_some_iff.1 hr).1; simp at this; omega
      subst hi; rw [List.getElem?_append_right (Nat.le_refl _)] at hr; simp at hr; subst hr; refine ⟨by simpa using hm, k, get_app (by rw [hG.len]; exact e), fun j hjW => ?_⟩; obtain ⟨t, q, a, b', c⟩ := hj j hjW; exact ⟨t, q, by rw [← a]; congr 1; omega, by simpa using b', c⟩
   obtain ⟨d', h1, h2⟩ := ih _ _ _ _ hG' h; exact ⟨d ++ d', by simpa using h1, by simpa using h2⟩
theorem growL_table {S : K → Prop} {Λ : K → List Int → Bool} (hS : ∀ k c t, S k → 0 ≤ c → c < (W : Int) → next k c = some t → S t ∧ ∀ w, Λ k (c :: w) = Λ t w) (ha : ∀ k b, S k → acc k = some b → Λ k [] = b) (ho : ∀ k c w, ¬ (0 ≤ c ∧ c < (W : Int)) → Λ k (c :: w) = false)
  {start : K} (h0 : S start) {f : Nat} {r : List Bool × List (List Int)} (h : growL good acc next W f [start] [] [] = some r) :
  TableOK W r.1.length r.2 ∧ 0 < r.1.length ∧ r.1.length ≤ 1900000 ∧ lng W r.1 r.2 0 = Λ start := by
 obtain ⟨d, hG, hlen⟩ := growL_grown (fun k c t a b c' e => (hS k c t a b c' e).1) f [start] [] [] r ⟨rfl, by simp, by simp, by intro k hk; simp at hk; exact hk ▸ h0, by simp, by simp⟩ h; (have hpos : 0 < r.1.length := by rw [hlen]; simp)
 have hT : TableOK W r.1.length r.2 := by
  refine ⟨hG.len, fun row hrow => ?_⟩; obtain ⟨i, hi, he⟩ := List.getElem_of_mem hrow; obtain ⟨hW, k, _, hj⟩ := hG.row i row (by rw [List.getElem?_eq_getElem hi, he]); refine ⟨hW, fun x hx => ?_⟩; obtain ⟨j, hj1, hj2⟩ := List.getElem_of_mem hx; obtain ⟨t, q, _, h2, h3⟩ := hj j (by omega); rw [List.getElem?_eq_getElem hj1, hj2] at h2; obtain rfl := Option.some.inj h2; have := (List.getElem?_eq_some_iff.1 h3).1; omega
 refine ⟨hT, hpos, by rw [hlen]; exact hG.few, ?_⟩
 have key : ∀ (w : List Int) (i : Nat) (k : K), ([start] ++ d)[i]? = some k → lng W r.1 r.2 (i : Int) w = Λ k w := by
  intro w
  induction w with
  | nil =>
   intro i k hk; have hi := (List.getElem?_eq_some_iff.1 hk).1; obtain ⟨k', h1, h2⟩ := hG.acc i r.1[i] (List.getElem?_eq_getElem (by omega)); rw [hk] at h1; obtain rfl := Option.some.inj h1; rw [ha k _ (hG.all k (List.mem_of_getElem? hk)) h2]; simp [lng, rdOf, List.getD_eq_getElem?_getD, List.getElem?_eq_getElem (show i < r.1.length by omega)]
  | cons c w ih =>
   intro i k hk; have hi := (List.getElem?_eq_some_iff.1 hk).1; by_cases hc : 0 ≤ c ∧ c < (W : Int)
   ·obtain ⟨hW, k', h1, h2⟩ := hG.row i (r.2[i]'(by rw [hG.len]; omega)) (List.getElem?_eq_getElem _); rw [hk] at h1; obtain rfl := Option.some.inj h1; obtain ⟨t, q, a, b, c'⟩ := h2 c.toNat (by omega); rw [show ((c.toNat : Nat) : Int) = c by omega] at a
    have hs : stp r.2 (i : Int) c = (q : Int) := by
     simp only [stp, rd, Int.toNat_natCast]; rw [List.getD_eq_getElem?_getD, List.getD_eq_getElem?_getD, List.getElem?_eq_getElem (show i < r.2.length by rw [hG.len]; omega)]; simp only [Option.getD_some]; rw [b]; rfl
    obtain ⟨_, hΛ⟩ := hS k c t (hG.all k (List.mem_of_getElem? hk)) hc.1 hc.2 a; simp only [lng, hc, decide_true, Bool.true_and]; rw [hs, ih q t c', hΛ]
   ·rw [ho k c w hc]; simp only [lng]; by_cases c0 : 0 ≤ c
    ·simp [show ¬ c < (W : Int) from fun h => hc ⟨c0, h⟩]
    ·simp [c0]
 funext w
 exact key w 0 start (by simp)
end
def lngR (W : Nat) (pads : List Int) (ac : List Bool) (ns : List (List Int)) : Int × Int → List Int → Bool
 | x, [] => decide (0 ≤ x.2) && rdOf false ac x.1
 | x, c :: w => decide (0 ≤ c) && (decide (c < (W : Int)) && (decide (0 ≤ x.2) && (decide (bits .andNot .i64 x.2 (rd pads c) = 0) && lngR W pads ac ns (stp ns x.1 c, rd pads c) w)))
theorem lngR_dead (W : Nat) (pads : List Int) (ac : List Bool) (ns : List (List Int)) (q : Int) (w : List Int) : lngR W pads ac ns (q, -1) w = false := by
 cases w <;> simp [lngR]
theorem rd_range {l : List Int} {p : Int → Prop} (h : ∀ x ∈ l, p x) {i : Int} (h0 : 0 ≤ i) (h1 : i < (l.length : Int)) : p (rd l i) := by
 (have : i.toNat < l.length := by omega); unfold rd; rw [List.getD_eq_getElem?_getD, List.getElem?_eq_getElem this]; exact h _ (List.getElem_mem this)
theorem places_law {W n : Nat} {pads : List Int} {ac : List Bool} {ns : List (List Int)} (hT : TableOK W n ns) (hn : ac.length = n) (hp : pads.length = W) (hp8 : ∀ x ∈ pads, 0 ≤ x ∧ x < 8) (hn2 : n ≤ 100000) {start : Int} (s0 : 0 ≤ start) (s1 : start < (n : Int)) {f : Nat} (hf : 1900002 ≤ f) :
  ∃ r, growL good2 (accT ac) (nextT pads ns) W f [(start, 0)] [] [] = some r ∧ TableOK W r.1.length r.2 ∧ 0 < r.1.length ∧ r.1.length ≤ 1900000 ∧ lng W r.1 r.2 0 = lngR W pads ac ns (start, 0) := by
 have hS : ∀ k c, (k = ((0 : Int), (-1 : Int)) ∨ (0 ≤ k.1 ∧ k.1 < (n : Int) ∧ 0 ≤ k.2 ∧ k.2 < 8)) → 0 ≤ c → c < (W : Int) → ∃ t, nextT pads ns k c = some t ∧ (t = ((0 : Int), (-1 : Int)) ∨ (0 ≤ t.1 ∧ t.1 < (n : Int) ∧ 0 ≤ t.2 ∧ t.2 < 8)) ∧ ∀ w, lngR W pads ac ns k (c :: w) = lngR W pads ac ns t w := by
  intro k c hk c0 c1
  rcases hk with rfl | ⟨k0, k1, k2, k3⟩
  ·exact ⟨(0, -1), by unfold nextT; rw [if_pos (by show (-1 : Int) < 0; omega)], .inl rfl, fun w => by rw [lngR_dead, lngR_dead]⟩
  ·have hpc := rd_range hp8 c0 (by omega); unfold nextT; rw [if_neg (by omega), at1_in c0 (by omega)]; simp only [Option.bind_some]; rw [show rdOf 0 pads c = rd pads c from rfl]; by_cases hb : bits .andNot .i64 k.2 (rd pads c) = 0
   ·rw [if_pos hb]; have hst := hT.stpd k0 k1 c0 c1; have hrow := hT.row k0 k1; rw [at1_in k0 (by rw [hT.1]; exact k1)]; simp only [Option.bind_some]; rw [show rdOf [] ns k.1 = ns.getD k.1.toNat [] from rfl, at1_in c0 (by rw [(hT.2 _ hrow).1]; exact c1)]; simp only [Option.bind_some]; refine ⟨_, rfl, .inr ⟨hst.1, hst.2, hpc.1, hpc.2⟩, fun w => ?_⟩; simp only [lngR, c0, c1, k2, hb, decide_true, Bool.true_and]; rfl
   ·rw [if_neg hb]; refine ⟨_, rfl, .inl rfl, fun w => ?_⟩; rw [lngR_dead]; simp [lngR, hb]
 have hA : ∀ k : Int × Int, (k = ((0 : Int), (-1 : Int)) ∨ (0 ≤ k.1 ∧ k.1 < (n : Int) ∧ 0 ≤ k.2 ∧ k.2 < 8)) → ∃ b, accT ac k = some b ∧ lngR W pads ac ns k [] = b := by
  intro k hk
  rcases hk with rfl | ⟨k0, k1, k2, k3⟩
  ·exact ⟨false, by unfold accT; rw [if_neg (by show ¬ (0 : Int) ≤ -1; omega)], lngR_dead _ _ _ _ _ _⟩
  ·exact ⟨rdOf false ac k.1, by unfold accT; rw [if_pos k2, at1_in k0 (by omega)], by simp [lngR, k2]⟩
 let U : List (Int × Int) := ((0 : Int), (-1 : Int)) :: (List.range n).flatMap fun (a : Nat) => (List.range 8).map fun (b : Nat) => ((a : Int), (b : Int))
 have hUl : U.length = n * 8 + 1 := by
  simp only [U, List.length_cons, List.length_flatMap, List.length_map, List.length_range, List.map_const', List.sum_replicate_nat]
 have hU : ∀ k : Int × Int, k ∈ U ↔ (k = ((0 : Int), (-1 : Int)) ∨ (0 ≤ k.1 ∧ k.1 < (n : Int) ∧ 0 ≤ k.2 ∧ k.2 < 8)) := by
  intro k; simp only [U, List.mem_cons, List.mem_flatMap, List.mem_range, List.mem_map]; constructor
  ·rintro (h | ⟨a, ha, b, hb, rfl⟩)
   ·exact .inl h
   ·exact .inr ⟨by simp, by simp; omega, by simp, by simp; omega⟩
  ·rintro (h | ⟨h0, h1, h2, h3⟩)
   ·exact .inl h
   ·exact .inr ⟨k.1.toNat, by omega, k.2.toNat, by omega, Prod.ext (by simp; omega) (by simp; omega)⟩
 have hst : (start, (0 : Int)) ∈ U := (hU _).2 (.inr ⟨s0, s1, by simp, by simp⟩)
 have total : ∃ r, growL good2 (accT ac) (nextT pads ns) W f [(start, 0)] [] [] = some r := by
  refine growL_some (U := U) (by rw [hUl]; omega) (fun k c hk c0 c1 => ?_) (fun k hk => ?_) f _ [] [] (by simp) (by intro k hk; simp at hk; subst hk; exact hst) (by simp) (by rw [hUl]; simp; omega)
  ·obtain ⟨t, ht, hSt, _⟩ := hS k c ((hU k).1 hk) c0 c1; refine ⟨t, ht, ?_, (hU t).2 hSt⟩
   rcases hSt with rfl | ⟨t0, t1, t2, t3⟩
   ·decide
   ·simp only [good2, inI64, Bool.and_eq_true, decide_eq_true_eq]; omega
  ·obtain ⟨b, hb, _⟩ := hA k ((hU k).1 hk); exact ⟨b, hb⟩
 obtain ⟨r, hr⟩ := total
 have ht := growL_table (S := fun k => k = ((0 : Int), (-1 : Int)) ∨ (0 ≤ k.1 ∧ k.1 < (n : Int) ∧ 0 ≤ k.2 ∧ k.2 < 8)) (Λ := lngR W pads ac ns)
  (fun k c t hk c0 c1 ht => by obtain ⟨t', ht', h1, h2⟩ := hS k c hk c0 c1; rw [ht] at ht'; obtain rfl := Option.some.inj ht'; exact ⟨h1, h2⟩)
  (fun k b hk hb => by obtain ⟨b', hb', h⟩ := hA k hk; rw [hb] at hb'; obtain rfl := Option.some.inj hb'; exact h)
  (fun k c w hc => by
   simp only [lngR]; by_cases c0 : 0 ≤ c
   ·simp [show ¬ c < (W : Int) from fun h => hc ⟨c0, h⟩]
   ·simp [c0])
  (.inr ⟨s0, s1, by simp, by simp⟩) hr
 exact ⟨r, hr, ht⟩
/-- 'tidy' makes the tidy table of the right language. -/
theorem tidy_law {W n : Nat} {pads : List Int} {ac : List Bool} {ns : List (List Int)} (hT : TableOK W n ns) (hn : ac.length = n) (hp : pads.length = W) (hp8 : ∀ x ∈ pads, 0 ≤ x ∧ x < 8) (hn2 : n ≤ 100000) (hW : W ≤ 1000) {start : Int} (s0 : 0 ≤ start) (s1 : start < (n : Int)) {f : Nat} (hf : 1900002 ≤ f) :
  ∃ p r, growL good2 (accT ac) (nextT pads ns) W f [(start, 0)] [] [] = some p ∧ (p.1.length ≤ 1900000 ∧ p.2.length = p.1.length ∧ ∀ row ∈ p.2, row.length ≤ 1000) ∧ mergedF W f 0 p.1 p.2 = some r ∧ tidyD W f (lngR W pads ac ns (start, 0)) = some r := by
 obtain ⟨p, hp1, hT2, hpos, hle, hl⟩ := places_law hT hn hp hp8 hn2 s0 s1 hf; obtain ⟨r, hr, hd⟩ := merged_law hT2 rfl hle (start := 0) (by omega) (by omega) (f := f) (by omega); exact ⟨p, r, hp1, ⟨hle, hT2.1, fun row hrow => by rw [(hT2.2 row hrow).1]; exact hW⟩, hr, by rw [← hl]; exact hd⟩
section
variable {W n m : Nat} {ac : List Bool} {ns : List (List Int)} {cl : List Int}
/-- The numbers of the classes that were met. -/
structure NuOK (n m : Nat) (cl : List Int) (nu l : List Int) : Prop where
 len : nu.length = m
 rng : ∀ s ∈ l, 0 ≤ s ∧ s < (n : Int)
 nod : (l.map (rd cl)).Nodup
 num : ∀ v : Int, 0 ≤ v → v < (m : Int) → (rd nu v < 0 ∧ ∀ s ∈ l, rd cl s ≠ v) ∨ ∃ (i : Nat) (s : Int), rd nu v = (i : Int) ∧ l[i]? = some s ∧ rd cl s = v
theorem rd_set_other {l : List Int} {i j x : Int} (h0 : 0 ≤ i) (h1 : 0 ≤ j) (h : i ≠ j) : rd (l.set i.toNat x) j = rd l j := by
 unfold rd; rw [List.getD_eq_getElem?_getD, List.getD_eq_getElem?_getD, List.getElem?_set, if_neg (by omega)]
theorem NuOK.push {nu l : List Int} (h : NuOK n m cl nu l) {t : Int} (t0 : 0 ≤ t) (t1 : t < (n : Int)) (c0 : 0 ≤ rd cl t) (c1 : rd cl t < (m : Int)) (hx : rd nu (rd cl t) < 0) : NuOK n m cl (nu.set (rd cl t).toNat (l.length : Int)) (l ++ [t]) := by
 have hnew : ∀ s ∈ l, rd cl s ≠ rd cl t := by
  rcases h.num _ c0 c1 with ⟨_, h2⟩ | ⟨i, s, h2, _⟩
  ·exact h2
  ·omega
 refine ⟨by simp [h.len], ?_, ?_, ?_⟩
 ·intro s hs
  rcases List.mem_append.1 hs with hs | hs
  ·exact h.rng s hs
  ·simp at hs; subst hs; exact ⟨t0, t1⟩
 ·rw [List.map_append]; refine List.nodup_append.2 ⟨h.nod, by simp, fun a ha b hb => ?_⟩; simp at hb; subst hb; obtain ⟨s, hs, rfl⟩ := List.mem_map.1 ha; exact hnew s hs
 ·intro v v0 v1; by_cases e : rd cl t = v
  ·subst e; right; exact ⟨l.length, t, rd_set_same c0 (by rw [h.len]; exact c1), by simp, rfl⟩
  ·rw [rd_set_other c0 v0 e]
   rcases h.num v v0 v1 with ⟨h2, h3⟩ | ⟨i, s, h2, h3, h4⟩
   ·left; refine ⟨h2, fun s hs => ?_⟩
    rcases List.mem_append.1 hs with hs | hs
    ·exact h3 s hs
    ·simp at hs; subst hs; exact e
   ·right; exact ⟨i, s, h2, getE_app h3, h4⟩
open Classical in
theorem trow_grow (hE : ClassEq W n ac ns (rd cl)) (hcl : cl.length = n) (hcm : ∀ i, 0 ≤ i → i < (n : Int) → 0 ≤ rd cl i ∧ rd cl i < (m : Int)) {nx : Int → Option (List Int → Bool)} :
  ∀ (ts : List Int) (c : Int) (nu l row : List Int) (L1 : List (List Int → Bool)) (row1 : List Int), (∀ t ∈ ts, 0 ≤ t ∧ t < (n : Int)) → (∀ j : Nat, ∀ t, ts[j]? = some t → nx (c + j) = some (lng W ac ns t)) → NuOK n m cl nu l →
   growRow (fun _ => true) nx ts.length c (l.map (lng W ac ns)) row = some (L1, row1) → ∃ nu1 l1, trowF cl ts nu l row = some (nu1, l1, row1) ∧ L1 = l1.map (lng W ac ns) ∧ NuOK n m cl nu1 l1 := by
 intro ts
 induction ts with
 | nil =>
  intro c nu l row L1 row1 _ _ hN h; simp only [List.length_nil, growRow, Option.some.injEq, Prod.mk.injEq] at h; obtain ⟨rfl, rfl⟩ := h; exact ⟨nu, l, rfl, rfl, hN⟩
 | cons t ts ih =>
  intro c nu l row L1 row1 ht hnx hN h; obtain ⟨t0, t1⟩ := ht t (by simp); obtain ⟨c0, c1⟩ := hcm t t0 t1; have hn0 := hnx 0 t (by simp); rw [show c + ((0 : Nat) : Int) = c by omega] at hn0; simp only [List.length_cons, growRow, hn0, Option.bind_some, if_true] at h
  have hnx' : ∀ j : Nat, ∀ t', ts[j]? = some t' → nx (c + 1 + j) = some (lng W ac ns t') := by
   intro j t' hj; have := hnx (j + 1) t' (by simpa using hj); rw [show c + 1 + (j : Int) = c + ((j + 1 : Nat) : Int) by omega]; exact this
  rw [trowF, at1_in t0 (by omega)]; simp only [Option.bind_some]; rw [show rdOf 0 cl t = rd cl t from rfl, at1_in c0 (by rw [hN.len]; exact c1)]; simp only [Option.bind_some]; rw [show rdOf 0 nu (rd cl t) = rd nu (rd cl t) from rfl]
  rcases hN.num _ c0 c1 with ⟨h2, h3⟩ | ⟨i, s, h2, h3, h4⟩
  ·rw [if_pos h2]
   have hmem : lng W ac ns t ∉ l.map (lng W ac ns) := by
    intro hm; obtain ⟨s, hs, he⟩ := List.mem_map.1 hm; obtain ⟨s0, s1⟩ := hN.rng s hs; exact h3 s hs ((hE s t s0 s1 t0 t1).2 he)
   rw [if_neg hmem, List.length_map] at h
   split at h
   ·next hlt =>
    rw [if_pos hlt]; have hN2 := NuOK.push hN t0 t1 c0 c1 h2; exact ih (c + 1) _ (l ++ [t]) _ L1 row1 (fun t' ht' => ht t' (by simp [ht'])) hnx' hN2 (by rw [List.map_append]; exact h)
   ·cases h
  ·rw [if_neg (by omega)]; obtain ⟨s0, s1⟩ := hN.rng s (List.mem_of_getElem? h3); have hls : lng W ac ns s = lng W ac ns t := (hE s t s0 s1 t0 t1).1 h4; have hi := (List.getElem?_eq_some_iff.1 h3).1; (have hmem : lng W ac ns t ∈ l.map (lng W ac ns) := by rw [← hls]; exact List.mem_map_of_mem (List.mem_of_getElem? h3)); rw [if_pos hmem] at h
   have hnodL : (l.map (lng W ac ns)).Nodup := by
    have := hN.nod
    rw [List.Nodup, List.pairwise_map] at this ⊢
    refine List.Pairwise.imp_of_mem ?_ this; intro a b ha hb hab e; obtain ⟨a0, a1⟩ := hN.rng a ha; obtain ⟨b0, b1⟩ := hN.rng b hb; exact hab ((hE a b a0 a1 b0 b1).2 e)
   have hix : (l.map (lng W ac ns)).idxOf (lng W ac ns t) = i := by
    have hi2 : i < (l.map (lng W ac ns)).length := by simpa using hi
    have hget : (l.map (lng W ac ns))[i] = lng W ac ns t := by
     rw [List.getElem_map, ← hls]
     congr 1
     exact (List.getElem?_eq_some_iff.1 h3).2
    rw [← hget, hnodL.idxOf_getElem]
   rw [hix] at h; rw [h2]; exact ih (c + 1) nu l _ L1 row1 (fun t' ht' => ht t' (by simp [ht'])) hnx' hN h
open Classical in
theorem tmain_grow (hT : TableOK W n ns) (hn : ac.length = n) (hE : ClassEq W n ac ns (rd cl)) (hcl : cl.length = n) (hcm : ∀ i, 0 ≤ i → i < (n : Int) → 0 ≤ rd cl i ∧ rd cl i < (m : Int)) :
  ∀ (f : Nat) (nu l : List Int) (bs : List Bool) (rs : List (List Int)) (r : List Bool × List (List Int)), NuOK n m cl nu l → growL (fun _ => true) (fun L => some (L [])) (fun L c => some fun w => L (c :: w)) W f (l.map (lng W ac ns)) bs rs = some r → tmainF cl ac ns f nu l bs rs = some r := by
 intro f
 induction f with
 | zero => intro nu l bs rs r _ h; simp [growL] at h
 | succ f ih =>
  intro nu l bs rs r hN h; simp only [growL] at h; rw [List.getElem?_map] at h; rw [tmainF]
  cases e : l[bs.length]? with
  | none => rw [e] at h; simpa using h
  | some s =>
   rw [e] at h
   simp only [Option.map_some, Option.bind_some] at h ⊢
   obtain ⟨s0, s1⟩ := hN.rng s (List.mem_of_getElem? e); rw [at1_in s0 (by rw [hT.1]; exact s1)]; simp only [Option.bind_some]; rw [at1_in s0 (by omega)]; simp only [Option.bind_some]; obtain ⟨⟨L1, row1⟩, hp, h⟩ := oB h; have hrow := hT.row s0 s1; obtain ⟨hrl, hrr⟩ := hT.2 _ hrow
   obtain ⟨nu1, l1, h1, rfl, hN1⟩ := trow_grow (m := m) (nx := fun c => some fun w => lng W ac ns s (c :: w)) hE hcl hcm (rdOf [] ns s) 0 nu l [] L1 row1 (fun t ht => hrr t ht) (fun j t hj => by
    have hjl := (List.getElem?_eq_some_iff.1 hj).1
    have e2 : stp ns s (j : Int) = t := by
     have : (ns.getD s.toNat [])[j]? = some t := hj; simp only [stp, rd, Int.toNat_natCast]; rw [List.getD_eq_getElem?_getD (l := ns.getD s.toNat []), this]; rfl
    rw [show (0 : Int) + (j : Int) = (j : Int) by omega]; rw [← e2]
    have hjW : (j : Int) < (W : Int) := by
     have : (rdOf [] ns s).length = W := hrl; omega
    show some (fun w => lng W ac ns s ((j : Int) :: w)) = some (lng W ac ns (stp ns s (j : Int)))
    congr 1
    funext w
    simp [lng, hjW]) hN (by rw [show (rdOf [] ns s).length = W from hrl]; exact hp)
   rw [h1]; simp only [Option.bind_some]; exact ih nu1 l1 _ _ r hN1 h
/-- .. as the tidy table of the first state's language. -/
theorem tmain_law (hT : TableOK W n ns) (hn : ac.length = n) (h1 : n ≤ 1900000) (h0 : 0 < n) (hE : ClassEq W n ac ns (rd cl)) (hcl : cl.length = n) (hcm : ∀ i, 0 ≤ i → i < (n : Int) → 0 ≤ rd cl i ∧ rd cl i < (m : Int)) {f : Nat} (hf : n + 2 ≤ f) :
  ∃ r, tmainF cl ac ns f ((List.replicate m (-1)).set (rd cl 0).toNat 0) [0] [] [] = some r ∧ tidyD W f (lng W ac ns 0) = some r := by
 classical
 have total : ∃ r, growL (fun _ => true) (fun L => some (L [])) (fun (L : List Int → Bool) c => some fun w => L (c :: w)) W f [lng W ac ns 0] [] [] = some r := by
  have hUm : ∀ q, 0 ≤ q → q < (n : Int) → lng W ac ns q ∈ (List.range n).map (fun q : Nat => lng W ac ns (q : Int)) := fun q q0 q1 => List.mem_map.2 ⟨q.toNat, List.mem_range.2 (by omega), by rw [show ((q.toNat : Nat) : Int) = q by omega]⟩; refine growL_some (U := (List.range n).map (fun q : Nat => lng W ac ns (q : Int))) (by simpa using h1) (fun k c hk c0 c1 => ?_) (fun k hk => ⟨_, rfl⟩) f _ [] [] (by simp) (by intro k hk; simp at hk; subst hk; exact hUm 0 (by omega) (by omega)) (by simp) (by simp; omega); obtain ⟨q, hq, rfl⟩ := List.mem_map.1 hk; have hq' := List.mem_range.1 hq; have hs := hT.stpd (q := (q : Int)) (by omega) (by omega) c0 c1; refine ⟨_, rfl, rfl, ?_⟩
  have e : (fun w => lng W ac ns (q : Int) (c :: w)) = lng W ac ns (stp ns (q : Int) c) := by
   funext w
   simp [lng, c0, c1]
  rw [e]; exact hUm _ hs.1 hs.2
 obtain ⟨r, hr⟩ := total; have hc0 := hcm 0 (by omega) (by omega); refine ⟨r, tmain_grow hT hn hE hcl hcm f _ [0] [] [] r ?_ (by simpa using hr), hr⟩; refine ⟨by simp, by simp; omega, by simp, fun v v0 v1 => ?_⟩; by_cases e : rd cl 0 = v
 ·right; exact ⟨0, 0, by rw [← e]; exact rd_set_same hc0.1 (by simp; omega), by simp, e⟩
 ·left; rw [rd_set_other hc0.1 v0 e]; refine ⟨?_, by simpa using e⟩
  have : rd (List.replicate m (-1)) v = -1 := by
   (have hv : v.toNat < m := by omega); simp [rd, List.getD_eq_getElem?_getD, hv]
  omega
end
end Go.Proofs.YtocfcpicleomcaaDoor.X
