import Derived.Test.YtocfcpicleomcaaDoorFU2
import Derived.Test.YtocfcpicleomcaaDoorFU3
import Derived.Test.YtocfcpicleomcaaDoorFU8
import Derived.Test.YtocfcpicleomcaaDoorFU11
import Derived.Carry
import Derived.Outline
import Derived.Test.YtocfcpicleomcaaDoorRows
import Derived.Test.YtocfcpicleomcaaDoorFU5
import Derived.Lib.LaidTab
import Derived.LaidLaws
import Derived.ChangeVars
import Derived.JoinedOf
import Derived.JoinedAt
import Derived.Deep.Matrix
import Derived.Deep.Grids
import Derived.Lib.SmallJoins
import Derived.ProofKit
import Derived.OpenShut
import Derived.Test.YtocfcpicleomcaaDoorFU7
import Derived.Test.YtocfcpicleomcaaDoorFU10
import Derived.Test.YtocfcpicleomcaaDoorFU4
import Derived.Test.YtocfcpicleomcaaDoorFU6
namespace Go.Proofs.YtocfcpicleomcaaDoor.X
set_option maxHeartbeats 16000000
set_option maxRecDepth 100000
open Go.RowKit Go.Proofs.YtocfcpicleomcaaDoorW.PrintWords Go.Proofs.YtocfcpicleomcaaDoorW.PrintLast Go.Proofs.YtocfcpicleomcaaDoorW.PrintMore
set_option linter.unusedVariables false
set_option linter.unusedSimpArgs false
open Classical in
noncomputable def laws_FnExactFirstUnlike.f (k : Nat) (t0 : Int) (s0 : Int) (l02 : List Bool) (l03 : List (List Int)) (t1 : Int) (s1 : Int) (l12 : List Bool) (l13 : List (List Int)) : Option Bool := (laws_szRelation.f k t0 s0 l02 l03 1048576).bind fun z1 => if z1 < 0 then some true else (laws_szRelation.f k t1 s1 l12 l13 z1).bind fun z2 => if z2 < 0 then some true else if laws_toRelation.f k t0 s0 l02 l03 = some (t0, s0, l02, l03) then (if laws_toRelation.f k t1 s1 l12 l13 = some (t1, s1, l12, l13) then ((xr0.f k t0 s0 l02 l03 t1 s1 l12 l13).bind fun | (r0, r1) => if xm0.f k t0 s0 l02 l03 t1 s1 l12 l13 = some (r0, r1) then (if laws_eqStringS.f k r0 r0 = some true then (if laws_eqRelation.f k t0 s0 l02 l03 t0 s0 l02 l03 = some true then (if laws_eqRelation.f k t1 s1 l12 l13 t1 s1 l12 l13 = some true then ((laws_markBoolS.f k l02 1).bind fun | (m14a, l02m) => (laws_markInt64SS.f k l03 m14a).bind fun | (m14, l03m) => if m14 < 0 then none else ((laws_markBoolS.f k l12 m14).bind fun | (m15a, l12m) => (laws_markInt64SS.f k l13 m15a).bind fun | (m15, l13m) => if m15 < 0 then none else ((laws_markStringS.f k r0 1).bind fun | (m17, r0m) => if m17 < 0 then none else (if laws_heldStringS.f k r0m 1 = some m17 then (some true) else none)))) else none) else none) else none) else none) else none) else none
theorem laws_FnExactFirstUnlike.main (k : Nat) (t0 s0 : Int) (A02 : Option Addr) (c02 : Nat) (l02 : List Bool) (A03 : Option Addr) (c03 : Nat) (l03 : List (List Int)) (t1 s1 : Int) (A12 : Option Addr) (c12 : Nat) (l12 : List Bool) (A13 : Option Addr) (c13 : Nat) (l13 : List (List Int)) (w : World) (htab : qz1 w) (hr02 : Kd.C Kd.bool w A02 l02.length l02) (hc02 : l02.length ≤ c02) (hr03 : Kd.C (Kd.slice 2 (Kd.int .i64)) w A03 l03.length l03) (hc03 : l03.length ≤ c03) (hr12 : Kd.C Kd.bool w A12 l12.length l12) (hc12 : l12.length ≤ c12) (hr13 : Kd.C (Kd.slice 2 (Kd.int .i64)) w A13 l13.length l13) (hc13 : l13.length ≤ c13) (z1 : Int) (z2 : Int) (r0 : List ByteArray) (r1 : Int) (m14a : Int) (l02m : List Bool) (m14 : Int) (l03m : List (List Int)) (m15a : Int) (l12m : List Bool) (m15 : Int) (l13m : List (List Int)) (m17 : Int) (r0m : List ByteArray) (hz1 : laws_szRelation.f k t0 s0 l02 l03 1048576 = some z1) (hz2 : laws_szRelation.f k t1 s1 l12 l13 z1 = some z2) (ht0 : laws_toRelation.f k t0 s0 l02 l03 = some (t0, s0, l02, l03)) (ht1 : laws_toRelation.f k t1 s1 l12 l13 = some (t1, s1, l12, l13)) (hS : xr0.f k t0 s0 l02 l03 t1 s1 l12 l13 = some (r0, r1)) (hI : xm0.f k t0 s0 l02 l03 t1 s1 l12 l13 = some (r0, r1)) (her : laws_eqStringS.f k r0 r0 = some true) (he0 : laws_eqRelation.f k t0 s0 l02 l03 t0 s0 l02 l03 = some true) (he1 : laws_eqRelation.f k t1 s1 l12 l13 t1 s1 l12 l13 = some true) (hm14a : laws_markBoolS.f k l02 1 = some (m14a, l02m)) (hm14b : laws_markInt64SS.f k l03 m14a = some (m14, l03m)) (hn14 : ¬ m14 < 0) (hm15a : laws_markBoolS.f k l12 m14 = some (m15a, l12m)) (hm15b : laws_markInt64SS.f k l13 m15a = some (m15, l13m)) (hn15 : ¬ m15 < 0) (hm17 : laws_markStringS.f k r0 1 = some (m17, r0m)) (hn17 : ¬ m17 < 0) (hh : laws_heldStringS.f k r0m 1 = some m17) (hsz1 : ¬ z1 < 0) (hsz2 : ¬ z2 < 0) :
  Calls Tryd.prog 14 #[.agg #[.int .i64 t0, .int .i64 s0, .slice A02 l02.length c02, .slice A03 l03.length c03], .agg #[.int .i64 t1, .int .i64 s1, .slice A12 l12.length c12, .slice A13 l13.length c13]] w fun e w' => e = .returned (.bool true) ∧ Below w.heap.size w w' := by
 have HR02 := am hr02; have HC02 := am hc02; have HR03 := am hr03; have HC03 := am hc03; have HR12 := am hr12; have HC12 := am hc12; have HR13 := am hr13; have HC13 := am hc13; have HZ1 := am hz1; have HZ2 := am hz2; have HT0 := am ht0; have HT1 := am ht1; have HS := am hS; have HI := am hI; have HER := am her; have HE0 := am he0; have HE1 := am he1; have HM14A := am hm14a; have HM14B := am hm14b; have HN14 := am hn14; have HM15A := am hm15a; have HM15B := am hm15b; have HN15 := am hn15; have HM17 := am hm17; have HN17 := am hn17; have HH := am hh; have HSZ1 := am hsz1; have HSZ2 := am hsz2; have HT := am htab; clear hr02 hc02 hr03 hc03 hr12 hc12 hr13 hc13 hz1 hz2 ht0 ht1 hS hI her he0 he1 hm14a hm14b hn14 hm15a hm15b hn15 hm17 hn17 hh hsz1 hsz2 htab; have HB_w := am (Below.refl w.heap.size w); go_enter Tryd.func14, Tryd.ntmps14
 go_wp2_with (fail)
 have HB_w1 := am (zx0 (zx0 (Below.refl w.heap.size w) (.cells #[.int .i64 t0, .int .i64 s0, .slice A02 l02.length c02, .slice A03 l03.length c03] 25)) (.cells #[.int .i64 t1, .int .i64 s1, .slice A12 l12.length c12, .slice A13 l13.length c13] 25)); have BXp0_w1 : zd0 (((((w.alloc (.cells #[.int .i64 t0, .int .i64 s0, .slice A02 l02.length c02, .slice A03 l03.length c03] 25)).alloc (.cells #[.int .i64 t1, .int .i64 s1, .slice A12 l12.length c12, .slice A13 l13.length c13] 25))).heap)[w.heap.size]? = some (.cells #[.int .i64 t0, .int .i64 s0, .slice A02 l02.length c02, .slice A03 l03.length c03] 25 (0, 0))) := am (by have q_ := (yc0 (yt0 w (.cells #[.int .i64 t0, .int .i64 s0, .slice A02 l02.length c02, .slice A03 l03.length c03] 25)) (.cells #[.int .i64 t1, .int .i64 s1, .slice A12 l12.length c12, .slice A13 l13.length c13] 25)); simpa using q_); have BXp1_w1 : zd0 (((((w.alloc (.cells #[.int .i64 t0, .int .i64 s0, .slice A02 l02.length c02, .slice A03 l03.length c03] 25)).alloc (.cells #[.int .i64 t1, .int .i64 s1, .slice A12 l12.length c12, .slice A13 l13.length c13] 25))).heap)[w.heap.size + 1]? = some (.cells #[.int .i64 t1, .int .i64 s1, .slice A12 l12.length c12, .slice A13 l13.length c13] 25 (0, 0))) := am (by have q_ := (yt0 (w.alloc (.cells #[.int .i64 t0, .int .i64 s0, .slice A02 l02.length c02, .slice A03 l03.length c03] 25)) (.cells #[.int .i64 t1, .int .i64 s1, .slice A12 l12.length c12, .slice A13 l13.length c13] 25)); simpa using q_); have HZ_w1 := am (show w.heap.size + 2 ≤ (((w.alloc (.cells #[.int .i64 t0, .int .i64 s0, .slice A02 l02.length c02, .slice A03 l03.length c03] 25)).alloc (.cells #[.int .i64 t1, .int .i64 s1, .slice A12 l12.length c12, .slice A13 l13.length c13] 25))).heap.size by simp); generalize ((w.alloc (.cells #[.int .i64 t0, .int .i64 s0, .slice A02 l02.length c02, .slice A03 l03.length c03] 25)).alloc (.cells #[.int .i64 t1, .int .i64 s1, .slice A12 l12.length c12, .slice A13 l13.length c13] 25)) = w1 at *; (with_reducible refine (laws_szRelation.calls k t0 s0 _ _ l02 _ _ l03 1048576 z1 _ (Kd.zv0 HR02.out HB_w1.out) HC02.out (Kd.zv0 HR03.out HB_w1.out) HC03.out HZ1.out).mono ?_); rintro e w2 ⟨rfl, hb⟩; have HZ_w2 := am (show w1.heap.size + 0 ≤ w2.heap.size by have := hb.size; omega); have HB_w2 := am (zn0 HB_w1.out HB_w1.out.size hb); have BXp0_w2 := am (zf0 BXp0_w1.out hb); have BXp1_w2 := am (zf0 BXp1_w1.out hb); clear HB_w1 BXp0_w1 BXp1_w1; clear hb; have hsz1 : decide (z1 < 0) = false := decide_eq_false (by have q_ := HSZ1.out; omega); obtain ⟨hx0_0, hx0_1, hx0_2, hx0_3⟩ := bc4 BXp1_w2.out
 go_wp2_with (fail)
 clear hx0_0 hx0_1 hx0_2 hx0_3; (with_reducible refine (laws_szRelation.calls k t1 s1 _ _ l12 _ _ l13 z1 z2 _ (Kd.zv0 HR12.out HB_w2.out) HC12.out (Kd.zv0 HR13.out HB_w2.out) HC13.out HZ2.out).mono ?_); rintro e w3 ⟨rfl, hb⟩; have HZ_w3 := am (show w2.heap.size + 0 ≤ w3.heap.size by have := hb.size; omega); have HB_w3 := am (zn0 HB_w2.out HB_w2.out.size hb); have BXp0_w3 := am (zf0 BXp0_w2.out hb); have BXp1_w3 := am (zf0 BXp1_w2.out hb); clear HB_w2 BXp0_w2 BXp1_w2; clear hb; have hsz2 : decide (z2 < 0) = false := decide_eq_false (by have q_ := HSZ2.out; omega)
 go_upto_region 8 with (fail)
 have HB_w4 := am (ye0 HB_w3.out); have BXp0_w4 := am (qe0 BXp0_w3.out); have BXp1_w4 := am (qe0 BXp1_w3.out); clear HB_w3 BXp0_w3 BXp1_w3; have HZ_w4 := am (show w3.heap.size + 0 ≤ w3.drew.heap.size by simp); refine qu0 (n := 10) (S := fun w' => w'.cell? ⟨w.heap.size, 0, none⟩ = some (.int .i64 t0) ∧ w'.cell? ⟨w.heap.size, 1, none⟩ = some (.int .i64 s0) ∧ w'.cell? ⟨w.heap.size, 2, none⟩ = some (.slice A02 l02.length c02) ∧ w'.cell? ⟨w.heap.size, 3, none⟩ = some (.slice A03 l03.length c03) ∧ w'.cell? ⟨w.heap.size + 1, 0, none⟩ = some (.int .i64 t1) ∧ w'.cell? ⟨w.heap.size + 1, 1, none⟩ = some (.int .i64 s1) ∧ w'.cell? ⟨w.heap.size + 1, 2, none⟩ = some (.slice A12 l12.length c12) ∧ w'.cell? ⟨w.heap.size + 1, 3, none⟩ = some (.slice A13 l13.length c13)) (ds := []) #[false, false, false, false, false, false, false, false, false, false] (by kernel_rfl) rfl rfl (bc8 BXp0_w4.out BXp1_w4.out) (fun hHeld => ?_); generalize w3.drew = w4 at *; refine kh0 0 (some 28) (bl 10 1) hHeld rfl rfl (h := ?_); refine kh0 2 (some 30) (bl 10 5) hHeld rfl rfl (h := ?_); refine oneA 1 (some 29) (bl 10 7) rfl rfl (fun K hK => ?_); refine yb1 Tryd.func17 #[.agg #[.int .i64 t0, .int .i64 s0, .slice A02 l02.length c02, .slice A03 l03.length c03]] rfl (h := ?_); (with_reducible refine (laws_toRelation.calls k t0 s0 _ _ l02 _ _ l03 t0 s0 l02 l03 _ (Kd.zv0 HR02.out HB_w4.out) HC02.out (Kd.zv0 HR03.out HB_w4.out) HC03.out HT0.out).mono ?_); rintro e w5 ⟨vx302, vx303, rfl, hx302, hx303, hb⟩; obtain ⟨Ax302, cx302, hvx302⟩ := Kd.zq0 hx302; subst hvx302; obtain ⟨Ax303, cx303, hvx303⟩ := Kd.xc0 hx303; subst hvx303; have HZ_w5 := am (show w4.heap.size + 0 ≤ w5.heap.size by have := hb.size; omega); have RIx30_w5 := am (ja0.mk_ (base := w.heap.size) HB_w4.out.size hx302 hx303); have HB_w5 := am (zn0 HB_w4.out HB_w4.out.size hb); have BXp0_w5 := am (zf0 BXp0_w4.out hb); have BXp1_w5 := am (zf0 BXp1_w4.out hb); clear HB_w4 BXp0_w4 BXp1_w4; clear hx302 hx303 hb; refine ⟨_, rfl, ?_⟩; refine hK.out _ _ (bc8 BXp0_w5.out BXp1_w5.out) (fun hHeld => ?_); clear hK K; refine qk0 (h := ?_); refine oneA 3 (some 31) (bl 10 15) rfl rfl (fun K hK => ?_); refine yb1 Tryd.func17 #[.agg #[.int .i64 t1, .int .i64 s1, .slice A12 l12.length c12, .slice A13 l13.length c13]] rfl (h := ?_); (with_reducible refine (laws_toRelation.calls k t1 s1 _ _ l12 _ _ l13 t1 s1 l12 l13 _ (Kd.zv0 HR12.out HB_w5.out) HC12.out (Kd.zv0 HR13.out HB_w5.out) HC13.out HT1.out).mono ?_); rintro e w6 ⟨vx402, vx403, rfl, hx402, hx403, hb⟩; obtain ⟨Ax402, cx402, hvx402⟩ := Kd.zq0 hx402; subst hvx402; obtain ⟨Ax403, cx403, hvx403⟩ := Kd.xc0 hx403; subst hvx403; have HZ_w6 := am (show w5.heap.size + 0 ≤ w6.heap.size by have := hb.size; omega); have RIx40_w6 := am (ja0.mk_ (base := w.heap.size) HB_w5.out.size hx402 hx403); have HB_w6 := am (zn0 HB_w5.out HB_w5.out.size hb); have BXp0_w6 := am (zf0 BXp0_w5.out hb); have BXp1_w6 := am (zf0 BXp1_w5.out hb); have RIx30_w6 := am (RIx30_w5.out.below hb); clear HB_w5 BXp0_w5 BXp1_w5 RIx30_w5; clear hx402 hx403 hb; refine ⟨_, rfl, ?_⟩; refine hK.out _ _ (bc8 BXp0_w6.out BXp1_w6.out) (fun hHeld => ?_); clear hK K; refine qk0 (h := ?_); refine oneA 4 (some 32) (bl 10 31) rfl rfl (fun K hK => ?_); refine yb1 Tryd.func48 #[.agg #[.int .i64 t0, .int .i64 s0, .slice Ax302 l02.length cx302, .slice Ax303 l03.length cx303], .agg #[.int .i64 t1, .int .i64 s1, .slice Ax402 l12.length cx402, .slice Ax403 l13.length cx403]] rfl (h := ?_); (with_reducible refine (xr0.calls k t0 s0 _ _ l02 _ _ l03 t1 s1 _ _ l12 _ _ l13 r0 r1 _ RIx30_w6.out.reads.1 RIx30_w6.out.reads.2.1 RIx30_w6.out.reads.2.2.1 RIx30_w6.out.reads.2.2.2 RIx40_w6.out.reads.1 RIx40_w6.out.reads.2.1 RIx40_w6.out.reads.2.2.1 RIx40_w6.out.reads.2.2.2 HS.out).mono ?_); rintro e w7 ⟨vy50, rfl, hy50, hb⟩; obtain ⟨Ay50, cy50, hvy50⟩ := Kd.zq0 hy50; subst hvy50; have HZ_w7 := am (show w6.heap.size + 0 ≤ w7.heap.size by have := hb.size; omega); have RIy50_w7 := am (kg0.mk_ (base := w.heap.size) HB_w6.out.size hy50); have HB_w7 := am (zn0 HB_w6.out HB_w6.out.size hb); have BXp0_w7 := am (zf0 BXp0_w6.out hb); have BXp1_w7 := am (zf0 BXp1_w6.out hb); have RIx30_w7 := am (RIx30_w6.out.below hb); have RIx40_w7 := am (RIx40_w6.out.below hb); clear HB_w6 BXp0_w6 BXp1_w6 RIx30_w6 RIx40_w6; clear hy50 hb; refine ⟨_, rfl, ?_⟩; refine hK.out _ _ (bc8 BXp0_w7.out BXp1_w7.out) (fun hHeld => ?_); clear hK K; refine qk0 (h := ?_); refine zz0 5 (some 27) (bl 10 63) rfl rfl (h := ?_); refine zz0 6 (some 33) (bl 10 127) rfl rfl (h := ?_); refine zz0 7 (some 34) (bl 10 255) rfl rfl (h := ?_); refine zz0 8 (some 6) (bl 10 511) rfl rfl (h := ?_); refine zz0 9 (some 7) (bl 10 1023) rfl rfl (h := ?_); refine kv0 (by kernel_rfl) ?_; clear hHeld; clear RIx30_w7; clear RIx40_w7; obtain ⟨hx0_0, hx0_1, hx0_2, hx0_3⟩ := bc4 BXp0_w7.out
 go_wp2_with (fail)
 clear hx0_0 hx0_1 hx0_2 hx0_3; (with_reducible refine (laws_toRelation.calls k t0 s0 _ _ l02 _ _ l03 t0 s0 l02 l03 _ (Kd.zv0 HR02.out HB_w7.out) HC02.out (Kd.zv0 HR03.out HB_w7.out) HC03.out HT0.out).mono ?_); rintro e w8 ⟨vx602, vx603, rfl, hx602, hx603, hb⟩; obtain ⟨Ax602, cx602, hvx602⟩ := Kd.zq0 hx602; subst hvx602; obtain ⟨Ax603, cx603, hvx603⟩ := Kd.xc0 hx603; subst hvx603; have HZ_w8 := am (show w7.heap.size + 0 ≤ w8.heap.size by have := hb.size; omega); have RIx60_w8 := am (ja0.mk_ (base := w.heap.size) HB_w7.out.size hx602 hx603); have HB_w8 := am (zn0 HB_w7.out HB_w7.out.size hb); have BXp0_w8 := am (zf0 BXp0_w7.out hb); have BXp1_w8 := am (zf0 BXp1_w7.out hb); have RIy50_w8 := am (RIy50_w7.out.below hb); clear HB_w7 BXp0_w7 BXp1_w7 RIy50_w7; clear hx602 hx603 hb
 go_upto_region 10 with (fail)
 have BX8_w9 := am (yt0 w8 (.cells #[.int .i64 t0, .int .i64 s0, .slice Ax602 l02.length cx602, .slice Ax603 l03.length cx603] 29)); have hb := zx0 (Below.refl w8.heap.size w8) (.cells #[.int .i64 t0, .int .i64 s0, .slice Ax602 l02.length cx602, .slice Ax603 l03.length cx603] 29); have HZ_w9 := am (show w8.heap.size + 1 ≤ (w8.alloc (.cells #[.int .i64 t0, .int .i64 s0, .slice Ax602 l02.length cx602, .slice Ax603 l03.length cx603] 29)).heap.size by simp); have HB_w9 := am (zn0 HB_w8.out HB_w8.out.size hb); have BXp0_w9 := am (zf0 BXp0_w8.out hb); have BXp1_w9 := am (zf0 BXp1_w8.out hb); have RIy50_w9 := am (RIy50_w8.out.below hb); have RIx60_w9 := am (RIx60_w8.out.below hb); clear HB_w8 BXp0_w8 BXp1_w8 RIy50_w8 RIx60_w8; clear hb; generalize w8.alloc _ = w9 at *; obtain ⟨hx0_0, hx0_1, hx0_2, hx0_3⟩ := bc4 BXp1_w9.out
 go_wp2_with (fail)
 clear hx0_0 hx0_1 hx0_2 hx0_3; (with_reducible refine (laws_toRelation.calls k t1 s1 _ _ l12 _ _ l13 t1 s1 l12 l13 _ (Kd.zv0 HR12.out HB_w9.out) HC12.out (Kd.zv0 HR13.out HB_w9.out) HC13.out HT1.out).mono ?_); rintro e w10 ⟨vx702, vx703, rfl, hx702, hx703, hb⟩; obtain ⟨Ax702, cx702, hvx702⟩ := Kd.zq0 hx702; subst hvx702; obtain ⟨Ax703, cx703, hvx703⟩ := Kd.xc0 hx703; subst hvx703; have HZ_w10 := am (show w9.heap.size + 0 ≤ w10.heap.size by have := hb.size; omega); have RIx70_w10 := am (ja0.mk_ (base := w.heap.size) HB_w9.out.size hx702 hx703); have HB_w10 := am (zn0 HB_w9.out HB_w9.out.size hb); have BXp0_w10 := am (zf0 BXp0_w9.out hb); have BXp1_w10 := am (zf0 BXp1_w9.out hb); have RIy50_w10 := am (RIy50_w9.out.below hb); have RIx60_w10 := am (RIx60_w9.out.below hb); have BX8_w10 := am (zf0 BX8_w9.out hb); clear HB_w9 BXp0_w9 BXp1_w9 RIy50_w9 RIx60_w9 BX8_w9; clear hx702 hx703 hb
 go_upto_region 11 with (fail)
 have BX9_w11 := am (yt0 w10 (.cells #[.int .i64 t1, .int .i64 s1, .slice Ax702 l12.length cx702, .slice Ax703 l13.length cx703] 29)); have hb := zx0 (Below.refl w10.heap.size w10) (.cells #[.int .i64 t1, .int .i64 s1, .slice Ax702 l12.length cx702, .slice Ax703 l13.length cx703] 29); have HZ_w11 := am (show w10.heap.size + 1 ≤ (w10.alloc (.cells #[.int .i64 t1, .int .i64 s1, .slice Ax702 l12.length cx702, .slice Ax703 l13.length cx703] 29)).heap.size by simp); have HB_w11 := am (zn0 HB_w10.out HB_w10.out.size hb); have BXp0_w11 := am (zf0 BXp0_w10.out hb); have BXp1_w11 := am (zf0 BXp1_w10.out hb); have RIy50_w11 := am (RIy50_w10.out.below hb); have RIx60_w11 := am (RIx60_w10.out.below hb); have BX8_w11 := am (zf0 BX8_w10.out hb); have RIx70_w11 := am (RIx70_w10.out.below hb); clear HB_w10 BXp0_w10 BXp1_w10 RIy50_w10 RIx60_w10 BX8_w10 RIx70_w10; clear hb; generalize w10.alloc _ = w11 at *; obtain ⟨hx0_0, hx0_1, hx0_2, hx0_3⟩ := bc4 BX8_w11.out; obtain ⟨hx1_0, hx1_1, hx1_2, hx1_3⟩ := bc4 BX9_w11.out
 go_wp2_with (fail)
 clear hx0_0 hx0_1 hx0_2 hx0_3 hx1_0 hx1_1 hx1_2 hx1_3; (with_reducible refine (xm0.calls k t0 s0 _ _ l02 _ _ l03 t1 s1 _ _ l12 _ _ l13 r0 r1 _ (zz1 HT.out HB_w11.out) RIx60_w11.out.reads.1 RIx60_w11.out.reads.2.1 RIx60_w11.out.reads.2.2.1 RIx60_w11.out.reads.2.2.2 RIx70_w11.out.reads.1 RIx70_w11.out.reads.2.1 RIx70_w11.out.reads.2.2.1 RIx70_w11.out.reads.2.2.2 HI.out).mono ?_); rintro e w12 ⟨vy80, rfl, hy80, hb⟩; obtain ⟨Ay80, cy80, hvy80⟩ := Kd.zq0 hy80; subst hvy80; have HZ_w12 := am (show w11.heap.size + 0 ≤ w12.heap.size by have := hb.size; omega); have RIy80_w12 := am (kg0.mk_ (base := w.heap.size) HB_w11.out.size hy80); have HB_w12 := am (zn0 HB_w11.out HB_w11.out.size hb); have BXp0_w12 := am (zf0 BXp0_w11.out hb); have BXp1_w12 := am (zf0 BXp1_w11.out hb); have RIy50_w12 := am (RIy50_w11.out.below hb); have RIx60_w12 := am (RIx60_w11.out.below hb); have BX8_w12 := am (zf0 BX8_w11.out hb); have RIx70_w12 := am (RIx70_w11.out.below hb); have BX9_w12 := am (zf0 BX9_w11.out hb); clear HB_w11 BXp0_w11 BXp1_w11 RIy50_w11 RIx60_w11 BX8_w11 RIx70_w11 BX9_w11; clear hy80 hb
 go_wp2_with (fail)
 (with_reducible refine (laws_eqStringS.calls k _ _ r0 _ _ r0 true _ RIy80_w12.out.reads.1 RIy80_w12.out.reads.2 RIy50_w12.out.reads.1 RIy50_w12.out.reads.2 HER.out).mono ?_); rintro e w13 ⟨rfl, hb⟩; replace hb := hb.below; have HZ_w13 := am (show w12.heap.size + 0 ≤ w13.heap.size by have := hb.size; omega); have HB_w13 := am (zn0 HB_w12.out HB_w12.out.size hb); have BXp0_w13 := am (zf0 BXp0_w12.out hb); have BXp1_w13 := am (zf0 BXp1_w12.out hb); have RIy50_w13 := am (RIy50_w12.out.below hb); have RIx60_w13 := am (RIx60_w12.out.below hb); have BX8_w13 := am (zf0 BX8_w12.out hb); have RIx70_w13 := am (RIx70_w12.out.below hb); have BX9_w13 := am (zf0 BX9_w12.out hb); have RIy80_w13 := am (RIy80_w12.out.below hb); clear HB_w12 BXp0_w12 BXp1_w12 RIy50_w12 RIx60_w12 BX8_w12 RIx70_w12 BX9_w12 RIy80_w12; clear hb
 go_upto_region 14 with (fail)
 have HB_w14 := am (ye0 HB_w13.out); have BXp0_w14 := am (qe0 BXp0_w13.out); have BXp1_w14 := am (qe0 BXp1_w13.out); have RIy50_w14 := am (RIy50_w13.out.below (xd0 (Below.refl _ _))); have RIx60_w14 := am (RIx60_w13.out.below (xd0 (Below.refl _ _))); have BX8_w14 := am (qe0 BX8_w13.out); have RIx70_w14 := am (RIx70_w13.out.below (xd0 (Below.refl _ _))); have BX9_w14 := am (qe0 BX9_w13.out); have RIy80_w14 := am (RIy80_w13.out.below (xd0 (Below.refl _ _))); clear HB_w13 BXp0_w13 BXp1_w13 RIy50_w13 RIx60_w13 BX8_w13 RIx70_w13 BX9_w13 RIy80_w13; have HZ_w14 := am (show w13.heap.size + 0 ≤ w13.drew.heap.size by simp); refine qu0 (n := 5) (S := fun w' => w'.cell? ⟨w8.heap.size, 0, none⟩ = some (.int .i64 t0) ∧ w'.cell? ⟨w8.heap.size, 1, none⟩ = some (.int .i64 s0) ∧ w'.cell? ⟨w8.heap.size, 2, none⟩ = some (.slice Ax602 l02.length cx602) ∧ w'.cell? ⟨w8.heap.size, 3, none⟩ = some (.slice Ax603 l03.length cx603) ∧ w'.cell? ⟨w.heap.size, 0, none⟩ = some (.int .i64 t0) ∧ w'.cell? ⟨w.heap.size, 1, none⟩ = some (.int .i64 s0) ∧ w'.cell? ⟨w.heap.size, 2, none⟩ = some (.slice A02 l02.length c02) ∧ w'.cell? ⟨w.heap.size, 3, none⟩ = some (.slice A03 l03.length c03)) (ds := []) #[false, false, false, false, false] (by kernel_rfl) rfl rfl (bc8 BX8_w14.out BXp0_w14.out) (fun hHeld => ?_); generalize w13.drew = w14 at *; refine kh0 0 (some 54) (bl 5 1) hHeld rfl rfl (h := ?_); refine kh0 1 (some 55) (bl 5 3) hHeld rfl rfl (h := ?_); refine oneA 2 (some 56) (bl 5 7) rfl rfl (fun K hK => ?_); refine yb1 Tryd.func17 #[.agg #[.int .i64 t0, .int .i64 s0, .slice A02 l02.length c02, .slice A03 l03.length c03]] rfl (h := ?_); (with_reducible refine (laws_toRelation.calls k t0 s0 _ _ l02 _ _ l03 t0 s0 l02 l03 _ (Kd.zv0 HR02.out HB_w14.out) HC02.out (Kd.zv0 HR03.out HB_w14.out) HC03.out HT0.out).mono ?_); rintro e w15 ⟨vx1002, vx1003, rfl, hx1002, hx1003, hb⟩; obtain ⟨Ax1002, cx1002, hvx1002⟩ := Kd.zq0 hx1002; subst hvx1002; obtain ⟨Ax1003, cx1003, hvx1003⟩ := Kd.xc0 hx1003; subst hvx1003; have HZ_w15 := am (show w14.heap.size + 0 ≤ w15.heap.size by have := hb.size; omega); have RIx100_w15 := am (ja0.mk_ (base := w.heap.size) HB_w14.out.size hx1002 hx1003); have HB_w15 := am (zn0 HB_w14.out HB_w14.out.size hb); have BXp0_w15 := am (zf0 BXp0_w14.out hb); have BXp1_w15 := am (zf0 BXp1_w14.out hb); have RIy50_w15 := am (RIy50_w14.out.below hb); have RIx60_w15 := am (RIx60_w14.out.below hb); have BX8_w15 := am (zf0 BX8_w14.out hb); have RIx70_w15 := am (RIx70_w14.out.below hb); have BX9_w15 := am (zf0 BX9_w14.out hb); have RIy80_w15 := am (RIy80_w14.out.below hb); clear HB_w14 BXp0_w14 BXp1_w14 RIy50_w14 RIx60_w14 BX8_w14 RIx70_w14 BX9_w14 RIy80_w14; clear hx1002 hx1003 hb; refine ⟨_, rfl, ?_⟩; refine hK.out _ _ (bc8 BX8_w15.out BXp0_w15.out) (fun hHeld => ?_); clear hK K; refine qk0 (h := ?_); refine oneA 3 (some 57) (bl 5 15) rfl rfl (fun K hK => ?_); refine yb1 Tryd.func19 #[.agg #[.int .i64 t0, .int .i64 s0, .slice Ax602 l02.length cx602, .slice Ax603 l03.length cx603], .agg #[.int .i64 t0, .int .i64 s0, .slice Ax1002 l02.length cx1002, .slice Ax1003 l03.length cx1003]] rfl (h := ?_); (with_reducible refine (laws_eqRelation.calls k t0 s0 _ _ l02 _ _ l03 t0 s0 _ _ l02 _ _ l03 true _ RIx60_w15.out.reads.1 RIx60_w15.out.reads.2.1 RIx60_w15.out.reads.2.2.1 RIx60_w15.out.reads.2.2.2 RIx100_w15.out.reads.1 RIx100_w15.out.reads.2.1 RIx100_w15.out.reads.2.2.1 RIx100_w15.out.reads.2.2.2 HE0.out).mono ?_); rintro e w16 ⟨rfl, hb⟩; have HZ_w16 := am (show w15.heap.size + 0 ≤ w16.heap.size by have := hb.size; omega); have HB_w16 := am (zn0 HB_w15.out HB_w15.out.size hb); have BXp0_w16 := am (zf0 BXp0_w15.out hb); have BXp1_w16 := am (zf0 BXp1_w15.out hb); have RIy50_w16 := am (RIy50_w15.out.below hb); have RIx60_w16 := am (RIx60_w15.out.below hb); have BX8_w16 := am (zf0 BX8_w15.out hb); have RIx70_w16 := am (RIx70_w15.out.below hb); have BX9_w16 := am (zf0 BX9_w15.out hb); have RIy80_w16 := am (RIy80_w15.out.below hb); have RIx100_w16 := am (RIx100_w15.out.below hb); clear HB_w15 BXp0_w15 BXp1_w15 RIy50_w15 RIx60_w15 BX8_w15 RIx70_w15 BX9_w15 RIy80_w15 RIx100_w15; clear hb; refine ⟨_, rfl, ?_⟩; refine hK.out _ _ (bc8 BX8_w16.out BXp0_w16.out) (fun hHeld => ?_); clear hK K; refine qk0 (h := ?_); refine zz0 4 (some 58) (bl 5 31) rfl rfl (h := ?_); refine kv0 (by kernel_rfl) ?_; clear hHeld; clear RIx100_w16
 go_upto_region 16 with (fail)
 have HB_w17 := am (ye0 HB_w16.out); have BXp0_w17 := am (qe0 BXp0_w16.out); have BXp1_w17 := am (qe0 BXp1_w16.out); have RIy50_w17 := am (RIy50_w16.out.below (xd0 (Below.refl _ _))); have RIx60_w17 := am (RIx60_w16.out.below (xd0 (Below.refl _ _))); have BX8_w17 := am (qe0 BX8_w16.out); have RIx70_w17 := am (RIx70_w16.out.below (xd0 (Below.refl _ _))); have BX9_w17 := am (qe0 BX9_w16.out); have RIy80_w17 := am (RIy80_w16.out.below (xd0 (Below.refl _ _))); clear HB_w16 BXp0_w16 BXp1_w16 RIy50_w16 RIx60_w16 BX8_w16 RIx70_w16 BX9_w16 RIy80_w16; have HZ_w17 := am (show w16.heap.size + 0 ≤ w16.drew.heap.size by simp); refine qu0 (n := 5) (S := fun w' => w'.cell? ⟨w10.heap.size, 0, none⟩ = some (.int .i64 t1) ∧ w'.cell? ⟨w10.heap.size, 1, none⟩ = some (.int .i64 s1) ∧ w'.cell? ⟨w10.heap.size, 2, none⟩ = some (.slice Ax702 l12.length cx702) ∧ w'.cell? ⟨w10.heap.size, 3, none⟩ = some (.slice Ax703 l13.length cx703) ∧ w'.cell? ⟨w.heap.size + 1, 0, none⟩ = some (.int .i64 t1) ∧ w'.cell? ⟨w.heap.size + 1, 1, none⟩ = some (.int .i64 s1) ∧ w'.cell? ⟨w.heap.size + 1, 2, none⟩ = some (.slice A12 l12.length c12) ∧ w'.cell? ⟨w.heap.size + 1, 3, none⟩ = some (.slice A13 l13.length c13)) (ds := []) #[false, false, false, false, false] (by kernel_rfl) rfl rfl (bc8 BX9_w17.out BXp1_w17.out) (fun hHeld => ?_); generalize w16.drew = w17 at *; refine kh0 0 (some 59) (bl 5 1) hHeld rfl rfl (h := ?_); refine kh0 1 (some 60) (bl 5 3) hHeld rfl rfl (h := ?_); refine oneA 2 (some 61) (bl 5 7) rfl rfl (fun K hK => ?_); refine yb1 Tryd.func17 #[.agg #[.int .i64 t1, .int .i64 s1, .slice A12 l12.length c12, .slice A13 l13.length c13]] rfl (h := ?_); (with_reducible refine (laws_toRelation.calls k t1 s1 _ _ l12 _ _ l13 t1 s1 l12 l13 _ (Kd.zv0 HR12.out HB_w17.out) HC12.out (Kd.zv0 HR13.out HB_w17.out) HC13.out HT1.out).mono ?_); rintro e w18 ⟨vx1202, vx1203, rfl, hx1202, hx1203, hb⟩; obtain ⟨Ax1202, cx1202, hvx1202⟩ := Kd.zq0 hx1202; subst hvx1202; obtain ⟨Ax1203, cx1203, hvx1203⟩ := Kd.xc0 hx1203; subst hvx1203; have HZ_w18 := am (show w17.heap.size + 0 ≤ w18.heap.size by have := hb.size; omega); have RIx120_w18 := am (ja0.mk_ (base := w.heap.size) HB_w17.out.size hx1202 hx1203); have HB_w18 := am (zn0 HB_w17.out HB_w17.out.size hb); have BXp0_w18 := am (zf0 BXp0_w17.out hb); have BXp1_w18 := am (zf0 BXp1_w17.out hb); have RIy50_w18 := am (RIy50_w17.out.below hb); have RIx60_w18 := am (RIx60_w17.out.below hb); have BX8_w18 := am (zf0 BX8_w17.out hb); have RIx70_w18 := am (RIx70_w17.out.below hb); have BX9_w18 := am (zf0 BX9_w17.out hb); have RIy80_w18 := am (RIy80_w17.out.below hb); clear HB_w17 BXp0_w17 BXp1_w17 RIy50_w17 RIx60_w17 BX8_w17 RIx70_w17 BX9_w17 RIy80_w17; clear hx1202 hx1203 hb; refine ⟨_, rfl, ?_⟩; refine hK.out _ _ (bc8 BX9_w18.out BXp1_w18.out) (fun hHeld => ?_); clear hK K; refine qk0 (h := ?_); refine oneA 3 (some 62) (bl 5 15) rfl rfl (fun K hK => ?_); refine yb1 Tryd.func19 #[.agg #[.int .i64 t1, .int .i64 s1, .slice Ax702 l12.length cx702, .slice Ax703 l13.length cx703], .agg #[.int .i64 t1, .int .i64 s1, .slice Ax1202 l12.length cx1202, .slice Ax1203 l13.length cx1203]] rfl (h := ?_); (with_reducible refine (laws_eqRelation.calls k t1 s1 _ _ l12 _ _ l13 t1 s1 _ _ l12 _ _ l13 true _ RIx70_w18.out.reads.1 RIx70_w18.out.reads.2.1 RIx70_w18.out.reads.2.2.1 RIx70_w18.out.reads.2.2.2 RIx120_w18.out.reads.1 RIx120_w18.out.reads.2.1 RIx120_w18.out.reads.2.2.1 RIx120_w18.out.reads.2.2.2 HE1.out).mono ?_); rintro e w19 ⟨rfl, hb⟩; have HZ_w19 := am (show w18.heap.size + 0 ≤ w19.heap.size by have := hb.size; omega); have HB_w19 := am (zn0 HB_w18.out HB_w18.out.size hb); have BXp0_w19 := am (zf0 BXp0_w18.out hb); have BXp1_w19 := am (zf0 BXp1_w18.out hb); have RIy50_w19 := am (RIy50_w18.out.below hb); have RIx60_w19 := am (RIx60_w18.out.below hb); have BX8_w19 := am (zf0 BX8_w18.out hb); have RIx70_w19 := am (RIx70_w18.out.below hb); have BX9_w19 := am (zf0 BX9_w18.out hb); have RIy80_w19 := am (RIy80_w18.out.below hb); have RIx120_w19 := am (RIx120_w18.out.below hb); clear HB_w18 BXp0_w18 BXp1_w18 RIy50_w18 RIx60_w18 BX8_w18 RIx70_w18 BX9_w18 RIy80_w18 RIx120_w18; clear hb; refine ⟨_, rfl, ?_⟩; refine hK.out _ _ (bc8 BX9_w19.out BXp1_w19.out) (fun hHeld => ?_); clear hK K; refine qk0 (h := ?_); refine zz0 4 (some 63) (bl 5 31) rfl rfl (h := ?_); refine kv0 (by kernel_rfl) ?_; clear hHeld; clear RIx120_w19; obtain ⟨hx0_0, hx0_1, hx0_2, hx0_3⟩ := bc4 BX8_w19.out
 go_wp2_with (fail)
 clear hx0_0 hx0_1 hx0_2 hx0_3; (with_reducible refine (ja0.mark k _ _ _ _ l02 l03 1 m14a m14 l02m l03m w _ HB_w19.out RIx60_w19.out (by have := HZ_w1.out; have := HZ_w2.out; have := HZ_w3.out; have := HZ_w4.out; have := HZ_w5.out; have := HZ_w6.out; have := HZ_w7.out; have := HZ_w8.out; have := HZ_w9.out; have := HZ_w10.out; have := HZ_w11.out; have := HZ_w12.out; have := HZ_w13.out; have := HZ_w14.out; have := HZ_w15.out; have := HZ_w16.out; have := HZ_w17.out; have := HZ_w18.out; have := HZ_w19.out; omega) HM14A.out HM14B.out).mono ?_); rintro e w20 ⟨rfl, hI_, hB_, hK_⟩; have HZ_w20 := am (show w19.heap.size + 0 ≤ w20.heap.size by have := hK_.1; omega); have hzm_ := (And.intro HZ_w1.out (And.intro HZ_w2.out (And.intro HZ_w3.out (And.intro HZ_w4.out (And.intro HZ_w5.out (And.intro HZ_w6.out (And.intro HZ_w7.out (And.intro HZ_w8.out (And.intro HZ_w9.out (And.intro HZ_w10.out (And.intro HZ_w11.out (And.intro HZ_w12.out (And.intro HZ_w13.out (And.intro HZ_w14.out (And.intro HZ_w15.out (And.intro HZ_w16.out (And.intro HZ_w17.out (And.intro HZ_w18.out (And.intro HZ_w19.out trivial))))))))))))))))))); have BXp0_w20 := am ((hK_.2 _ (by have q_ := qc0 BXp0_w19.out; exact q_) (by have := hzm_; omega)).trans BXp0_w19.out); have BXp1_w20 := am ((hK_.2 _ (by have q_ := qc0 BXp1_w19.out; exact q_) (by have := hzm_; omega)).trans BXp1_w19.out); have RIy50_w20 := am (RIy50_w19.out.kept hK_ (fun k_ h1_ h2_ => by have := hzm_; omega)); have BX8_w20 := am ((hK_.2 _ (by have q_ := qc0 BX8_w19.out; exact q_) (by have := hzm_; omega)).trans BX8_w19.out); have RIx70_w20 := am (RIx70_w19.out.kept hK_ (fun k_ h1_ h2_ => by have := hzm_; omega)); have BX9_w20 := am ((hK_.2 _ (by have q_ := qc0 BX9_w19.out; exact q_) (by have := hzm_; omega)).trans BX9_w19.out); have RIy80_w20 := am (RIy80_w19.out.kept hK_ (fun k_ h1_ h2_ => by have := hzm_; omega)); clear BXp0_w19 BXp1_w19 RIy50_w19 BX8_w19 RIx70_w19 BX9_w19 RIy80_w19; clear hzm_; have HB_w20 := am hB_; clear HB_w19 hB_; clear hI_ hK_ RIx60_w19; have hd14 : decide (m14 < 0) = false := decide_eq_false (by have q_ := HN14.out; omega); obtain ⟨hx0_0, hx0_1, hx0_2, hx0_3⟩ := bc4 BX9_w20.out
 go_wp2_with (fail)
 clear hx0_0 hx0_1 hx0_2 hx0_3; (with_reducible refine (ja0.mark k _ _ _ _ l12 l13 m14 m15a m15 l12m l13m w _ HB_w20.out RIx70_w20.out (by have := HZ_w1.out; have := HZ_w2.out; have := HZ_w3.out; have := HZ_w4.out; have := HZ_w5.out; have := HZ_w6.out; have := HZ_w7.out; have := HZ_w8.out; have := HZ_w9.out; have := HZ_w10.out; have := HZ_w11.out; have := HZ_w12.out; have := HZ_w13.out; have := HZ_w14.out; have := HZ_w15.out; have := HZ_w16.out; have := HZ_w17.out; have := HZ_w18.out; have := HZ_w19.out; have := HZ_w20.out; omega) HM15A.out HM15B.out).mono ?_); rintro e w21 ⟨rfl, hI_, hB_, hK_⟩; have HZ_w21 := am (show w20.heap.size + 0 ≤ w21.heap.size by have := hK_.1; omega); have hzm_ := (And.intro HZ_w1.out (And.intro HZ_w2.out (And.intro HZ_w3.out (And.intro HZ_w4.out (And.intro HZ_w5.out (And.intro HZ_w6.out (And.intro HZ_w7.out (And.intro HZ_w8.out (And.intro HZ_w9.out (And.intro HZ_w10.out (And.intro HZ_w11.out (And.intro HZ_w12.out (And.intro HZ_w13.out (And.intro HZ_w14.out (And.intro HZ_w15.out (And.intro HZ_w16.out (And.intro HZ_w17.out (And.intro HZ_w18.out (And.intro HZ_w19.out (And.intro HZ_w20.out trivial)))))))))))))))))))); have BXp0_w21 := am ((hK_.2 _ (by have q_ := qc0 BXp0_w20.out; exact q_) (by have := hzm_; omega)).trans BXp0_w20.out); have BXp1_w21 := am ((hK_.2 _ (by have q_ := qc0 BXp1_w20.out; exact q_) (by have := hzm_; omega)).trans BXp1_w20.out); have RIy50_w21 := am (RIy50_w20.out.kept hK_ (fun k_ h1_ h2_ => by have := hzm_; omega)); have BX8_w21 := am ((hK_.2 _ (by have q_ := qc0 BX8_w20.out; exact q_) (by have := hzm_; omega)).trans BX8_w20.out); have BX9_w21 := am ((hK_.2 _ (by have q_ := qc0 BX9_w20.out; exact q_) (by have := hzm_; omega)).trans BX9_w20.out); have RIy80_w21 := am (RIy80_w20.out.kept hK_ (fun k_ h1_ h2_ => by have := hzm_; omega)); clear BXp0_w20 BXp1_w20 RIy50_w20 BX8_w20 BX9_w20 RIy80_w20; clear hzm_; have HB_w21 := am hB_; clear HB_w20 hB_; clear hI_ hK_ RIx70_w20; have hd15 : decide (m15 < 0) = false := decide_eq_false (by have q_ := HN15.out; omega)
 go_wp2_with (fail)
 (with_reducible refine (laws_eqStringS.calls k _ _ r0 _ _ r0 true _ RIy80_w21.out.reads.1 RIy80_w21.out.reads.2 RIy50_w21.out.reads.1 RIy50_w21.out.reads.2 HER.out).mono ?_); rintro e w22 ⟨rfl, hb⟩; replace hb := hb.below; have HZ_w22 := am (show w21.heap.size + 0 ≤ w22.heap.size by have := hb.size; omega); have HB_w22 := am (zn0 HB_w21.out HB_w21.out.size hb); have BXp0_w22 := am (zf0 BXp0_w21.out hb); have BXp1_w22 := am (zf0 BXp1_w21.out hb); have RIy50_w22 := am (RIy50_w21.out.below hb); have BX8_w22 := am (zf0 BX8_w21.out hb); have BX9_w22 := am (zf0 BX9_w21.out hb); have RIy80_w22 := am (RIy80_w21.out.below hb); clear HB_w21 BXp0_w21 BXp1_w21 RIy50_w21 BX8_w21 BX9_w21 RIy80_w21; clear hb
 go_wp2_with (fail)
 (with_reducible refine (kg0.mark_strs k _ r0 1 m17 r0m w _ HB_w22.out RIy80_w22.out (by have := HZ_w1.out; have := HZ_w2.out; have := HZ_w3.out; have := HZ_w4.out; have := HZ_w5.out; have := HZ_w6.out; have := HZ_w7.out; have := HZ_w8.out; have := HZ_w9.out; have := HZ_w10.out; have := HZ_w11.out; have := HZ_w12.out; have := HZ_w13.out; have := HZ_w14.out; have := HZ_w15.out; have := HZ_w16.out; have := HZ_w17.out; have := HZ_w18.out; have := HZ_w19.out; have := HZ_w20.out; have := HZ_w21.out; have := HZ_w22.out; omega) HM17.out).mono ?_); rintro e w23 ⟨rfl, hI_, hB_, hK_⟩; have HZ_w23 := am (show w22.heap.size + 0 ≤ w23.heap.size by have := hK_.1; omega); have hzm_ := (And.intro HZ_w1.out (And.intro HZ_w2.out (And.intro HZ_w3.out (And.intro HZ_w4.out (And.intro HZ_w5.out (And.intro HZ_w6.out (And.intro HZ_w7.out (And.intro HZ_w8.out (And.intro HZ_w9.out (And.intro HZ_w10.out (And.intro HZ_w11.out (And.intro HZ_w12.out (And.intro HZ_w13.out (And.intro HZ_w14.out (And.intro HZ_w15.out (And.intro HZ_w16.out (And.intro HZ_w17.out (And.intro HZ_w18.out (And.intro HZ_w19.out (And.intro HZ_w20.out (And.intro HZ_w21.out (And.intro HZ_w22.out trivial)))))))))))))))))))))); have BXp0_w23 := am ((hK_.2 _ (by have q_ := qc0 BXp0_w22.out; exact q_) (by have := hzm_; omega)).trans BXp0_w22.out); have BXp1_w23 := am ((hK_.2 _ (by have q_ := qc0 BXp1_w22.out; exact q_) (by have := hzm_; omega)).trans BXp1_w22.out); have RIy50_w23 := am (RIy50_w22.out.kept hK_ (fun k_ h1_ h2_ => by have := hzm_; omega)); have BX8_w23 := am ((hK_.2 _ (by have q_ := qc0 BX8_w22.out; exact q_) (by have := hzm_; omega)).trans BX8_w22.out); have BX9_w23 := am ((hK_.2 _ (by have q_ := qc0 BX9_w22.out; exact q_) (by have := hzm_; omega)).trans BX9_w22.out); clear BXp0_w22 BXp1_w22 RIy50_w22 BX8_w22 BX9_w22; clear hzm_; have HB_w23 := am hB_; clear HB_w22 hB_; have RIy80_w23 := am hI_; clear hI_ hK_ RIy80_w22; have hd17 : decide (m17 < 0) = false := decide_eq_false (by have q_ := HN17.out; omega)
 go_wp2_with (fail)
 obtain ⟨e2_, q1_, q2_⟩ := RIy80_w23.out.reads'; have hq_ := laws_heldStringS.calls k _ _ r0m 1 m17 _ q1_ q2_ HH.out; rw [← e2_] at hq_; clear e2_ q1_ q2_; (with_reducible refine hq_.mono ?_); clear hq_; rintro e w24 ⟨rfl, hb⟩; have HZ_w24 := am (show w23.heap.size + 0 ≤ w24.heap.size by have := hb.size; omega); have HB_w24 := am (zn0 HB_w23.out HB_w23.out.size hb); have BXp0_w24 := am (zf0 BXp0_w23.out hb); have BXp1_w24 := am (zf0 BXp1_w23.out hb); have RIy50_w24 := am (RIy50_w23.out.below hb); have BX8_w24 := am (zf0 BX8_w23.out hb); have BX9_w24 := am (zf0 BX9_w23.out hb); have RIy80_w24 := am (RIy80_w23.out.below hb); clear HB_w23 BXp0_w23 BXp1_w23 RIy50_w23 BX8_w23 BX9_w23 RIy80_w23; clear hb
 go_upto_region 31 with (fail)
 have HB_w25 := am (ye0 HB_w24.out); have BXp0_w25 := am (qe0 BXp0_w24.out); have BXp1_w25 := am (qe0 BXp1_w24.out); have RIy50_w25 := am (RIy50_w24.out.below (xd0 (Below.refl _ _))); have BX8_w25 := am (qe0 BX8_w24.out); have BX9_w25 := am (qe0 BX9_w24.out); have RIy80_w25 := am (RIy80_w24.out.below (xd0 (Below.refl _ _))); clear HB_w24 BXp0_w24 BXp1_w24 RIy50_w24 BX8_w24 BX9_w24 RIy80_w24; have HZ_w25 := am (show w24.heap.size + 0 ≤ w24.drew.heap.size by simp); refine qu0 (n := 10) (S := fun w' => w'.cell? ⟨w.heap.size, 0, none⟩ = some (.int .i64 t0) ∧ w'.cell? ⟨w.heap.size, 1, none⟩ = some (.int .i64 s0) ∧ w'.cell? ⟨w.heap.size, 2, none⟩ = some (.slice A02 l02.length c02) ∧ w'.cell? ⟨w.heap.size, 3, none⟩ = some (.slice A03 l03.length c03) ∧ w'.cell? ⟨w.heap.size + 1, 0, none⟩ = some (.int .i64 t1) ∧ w'.cell? ⟨w.heap.size + 1, 1, none⟩ = some (.int .i64 s1) ∧ w'.cell? ⟨w.heap.size + 1, 2, none⟩ = some (.slice A12 l12.length c12) ∧ w'.cell? ⟨w.heap.size + 1, 3, none⟩ = some (.slice A13 l13.length c13)) (ds := []) #[false, false, false, false, false, false, false, false, false, false] (by kernel_rfl) rfl rfl (bc8 BXp0_w25.out BXp1_w25.out) (fun hHeld => ?_); generalize w24.drew = w25 at *; refine kh0 0 (some 95) (bl 10 1) hHeld rfl rfl (h := ?_); refine kh0 2 (some 97) (bl 10 5) hHeld rfl rfl (h := ?_); refine oneA 1 (some 96) (bl 10 7) rfl rfl (fun K hK => ?_); refine yb1 Tryd.func17 #[.agg #[.int .i64 t0, .int .i64 s0, .slice A02 l02.length c02, .slice A03 l03.length c03]] rfl (h := ?_); (with_reducible refine (laws_toRelation.calls k t0 s0 _ _ l02 _ _ l03 t0 s0 l02 l03 _ (Kd.zv0 HR02.out HB_w25.out) HC02.out (Kd.zv0 HR03.out HB_w25.out) HC03.out HT0.out).mono ?_); rintro e w26 ⟨vx1902, vx1903, rfl, hx1902, hx1903, hb⟩; obtain ⟨Ax1902, cx1902, hvx1902⟩ := Kd.zq0 hx1902; subst hvx1902; obtain ⟨Ax1903, cx1903, hvx1903⟩ := Kd.xc0 hx1903; subst hvx1903; have HZ_w26 := am (show w25.heap.size + 0 ≤ w26.heap.size by have := hb.size; omega); have RIx190_w26 := am (ja0.mk_ (base := w.heap.size) HB_w25.out.size hx1902 hx1903); have HB_w26 := am (zn0 HB_w25.out HB_w25.out.size hb); have BXp0_w26 := am (zf0 BXp0_w25.out hb); have BXp1_w26 := am (zf0 BXp1_w25.out hb); have RIy50_w26 := am (RIy50_w25.out.below hb); have BX8_w26 := am (zf0 BX8_w25.out hb); have BX9_w26 := am (zf0 BX9_w25.out hb); have RIy80_w26 := am (RIy80_w25.out.below hb); clear HB_w25 BXp0_w25 BXp1_w25 RIy50_w25 BX8_w25 BX9_w25 RIy80_w25; clear hx1902 hx1903 hb; refine ⟨_, rfl, ?_⟩; refine hK.out _ _ (bc8 BXp0_w26.out BXp1_w26.out) (fun hHeld => ?_); clear hK K; refine qk0 (h := ?_); refine oneA 3 (some 98) (bl 10 15) rfl rfl (fun K hK => ?_); refine yb1 Tryd.func17 #[.agg #[.int .i64 t1, .int .i64 s1, .slice A12 l12.length c12, .slice A13 l13.length c13]] rfl (h := ?_); (with_reducible refine (laws_toRelation.calls k t1 s1 _ _ l12 _ _ l13 t1 s1 l12 l13 _ (Kd.zv0 HR12.out HB_w26.out) HC12.out (Kd.zv0 HR13.out HB_w26.out) HC13.out HT1.out).mono ?_); rintro e w27 ⟨vx2002, vx2003, rfl, hx2002, hx2003, hb⟩; obtain ⟨Ax2002, cx2002, hvx2002⟩ := Kd.zq0 hx2002; subst hvx2002; obtain ⟨Ax2003, cx2003, hvx2003⟩ := Kd.xc0 hx2003; subst hvx2003; have HZ_w27 := am (show w26.heap.size + 0 ≤ w27.heap.size by have := hb.size; omega); have RIx200_w27 := am (ja0.mk_ (base := w.heap.size) HB_w26.out.size hx2002 hx2003); have HB_w27 := am (zn0 HB_w26.out HB_w26.out.size hb); have BXp0_w27 := am (zf0 BXp0_w26.out hb); have BXp1_w27 := am (zf0 BXp1_w26.out hb); have RIy50_w27 := am (RIy50_w26.out.below hb); have BX8_w27 := am (zf0 BX8_w26.out hb); have BX9_w27 := am (zf0 BX9_w26.out hb); have RIy80_w27 := am (RIy80_w26.out.below hb); have RIx190_w27 := am (RIx190_w26.out.below hb); clear HB_w26 BXp0_w26 BXp1_w26 RIy50_w26 BX8_w26 BX9_w26 RIy80_w26 RIx190_w26; clear hx2002 hx2003 hb; refine ⟨_, rfl, ?_⟩; refine hK.out _ _ (bc8 BXp0_w27.out BXp1_w27.out) (fun hHeld => ?_); clear hK K; refine qk0 (h := ?_); refine oneA 4 (some 99) (bl 10 31) rfl rfl (fun K hK => ?_); refine yb1 Tryd.func49 #[.agg #[.int .i64 t0, .int .i64 s0, .slice Ax1902 l02.length cx1902, .slice Ax1903 l03.length cx1903], .agg #[.int .i64 t1, .int .i64 s1, .slice Ax2002 l12.length cx2002, .slice Ax2003 l13.length cx2003]] rfl (h := ?_); (with_reducible refine (xm0.calls k t0 s0 _ _ l02 _ _ l03 t1 s1 _ _ l12 _ _ l13 r0 r1 _ (zz1 HT.out HB_w27.out) RIx190_w27.out.reads.1 RIx190_w27.out.reads.2.1 RIx190_w27.out.reads.2.2.1 RIx190_w27.out.reads.2.2.2 RIx200_w27.out.reads.1 RIx200_w27.out.reads.2.1 RIx200_w27.out.reads.2.2.1 RIx200_w27.out.reads.2.2.2 HI.out).mono ?_); rintro e w28 ⟨vy210, rfl, hy210, hb⟩; obtain ⟨Ay210, cy210, hvy210⟩ := Kd.zq0 hy210; subst hvy210; have HZ_w28 := am (show w27.heap.size + 0 ≤ w28.heap.size by have := hb.size; omega); have RIy210_w28 := am (kg0.mk_ (base := w.heap.size) HB_w27.out.size hy210); have HB_w28 := am (zn0 HB_w27.out HB_w27.out.size hb); have BXp0_w28 := am (zf0 BXp0_w27.out hb); have BXp1_w28 := am (zf0 BXp1_w27.out hb); have RIy50_w28 := am (RIy50_w27.out.below hb); have BX8_w28 := am (zf0 BX8_w27.out hb); have BX9_w28 := am (zf0 BX9_w27.out hb); have RIy80_w28 := am (RIy80_w27.out.below hb); have RIx190_w28 := am (RIx190_w27.out.below hb); have RIx200_w28 := am (RIx200_w27.out.below hb); clear HB_w27 BXp0_w27 BXp1_w27 RIy50_w27 BX8_w27 BX9_w27 RIy80_w27 RIx190_w27 RIx200_w27; clear hy210 hb; refine ⟨_, rfl, ?_⟩; refine hK.out _ _ (bc8 BXp0_w28.out BXp1_w28.out) (fun hHeld => ?_); clear hK K; refine qk0 (h := ?_); refine zz0 5 (some 94) (bl 10 63) rfl rfl (h := ?_); refine zz0 6 (some 100) (bl 10 127) rfl rfl (h := ?_); refine zz0 7 (some 101) (bl 10 255) rfl rfl (h := ?_); refine zz0 8 (some 15) (bl 10 511) rfl rfl (h := ?_); refine zz0 9 (some 16) (bl 10 1023) rfl rfl (h := ?_); refine kv0 (by kernel_rfl) ?_; clear hHeld; clear RIx190_w28; clear RIx200_w28
 go_wp2_with (fail)
 (with_reducible refine (laws_eqStringS.calls k _ _ r0 _ _ r0 true _ RIy210_w28.out.reads.1 RIy210_w28.out.reads.2 RIy50_w28.out.reads.1 RIy50_w28.out.reads.2 HER.out).mono ?_); rintro e w29 ⟨rfl, hb⟩; replace hb := hb.below; have HZ_w29 := am (show w28.heap.size + 0 ≤ w29.heap.size by have := hb.size; omega); have HB_w29 := am (zn0 HB_w28.out HB_w28.out.size hb); have BXp0_w29 := am (zf0 BXp0_w28.out hb); have BXp1_w29 := am (zf0 BXp1_w28.out hb); have RIy50_w29 := am (RIy50_w28.out.below hb); have BX8_w29 := am (zf0 BX8_w28.out hb); have BX9_w29 := am (zf0 BX9_w28.out hb); have RIy80_w29 := am (RIy80_w28.out.below hb); have RIy210_w29 := am (RIy210_w28.out.below hb); clear HB_w28 BXp0_w28 BXp1_w28 RIy50_w28 BX8_w28 BX9_w28 RIy80_w28 RIy210_w28; clear hb
 go_wp2_with (fail)
 obtain ⟨e2_, q1_, q2_⟩ := RIy80_w29.out.reads'; have hq_ := laws_heldStringS.calls k _ _ r0m 1 m17 _ q1_ q2_ HH.out; rw [← e2_] at hq_; clear e2_ q1_ q2_; (with_reducible refine hq_.mono ?_); clear hq_; rintro e w30 ⟨rfl, hb⟩; have HZ_w30 := am (show w29.heap.size + 0 ≤ w30.heap.size by have := hb.size; omega); have HB_w30 := am (zn0 HB_w29.out HB_w29.out.size hb); have BXp0_w30 := am (zf0 BXp0_w29.out hb); have BXp1_w30 := am (zf0 BXp1_w29.out hb); have RIy50_w30 := am (RIy50_w29.out.below hb); have BX8_w30 := am (zf0 BX8_w29.out hb); have BX9_w30 := am (zf0 BX9_w29.out hb); have RIy80_w30 := am (RIy80_w29.out.below hb); have RIy210_w30 := am (RIy210_w29.out.below hb); clear HB_w29 BXp0_w29 BXp1_w29 RIy50_w29 BX8_w29 BX9_w29 RIy80_w29 RIy210_w29; clear hb; go_wp2; go_ret; exact ⟨rfl, HB_w30.out⟩
theorem laws_FnExactFirstUnlike.exit0 (k : Nat) (t0 s0 : Int) (A02 : Option Addr) (c02 : Nat) (l02 : List Bool) (A03 : Option Addr) (c03 : Nat) (l03 : List (List Int)) (t1 s1 : Int) (A12 : Option Addr) (c12 : Nat) (l12 : List Bool) (A13 : Option Addr) (c13 : Nat) (l13 : List (List Int)) (w : World) (htab : qz1 w) (hr02 : Kd.C Kd.bool w A02 l02.length l02) (hc02 : l02.length ≤ c02) (hr03 : Kd.C (Kd.slice 2 (Kd.int .i64)) w A03 l03.length l03) (hc03 : l03.length ≤ c03) (hr12 : Kd.C Kd.bool w A12 l12.length l12) (hc12 : l12.length ≤ c12) (hr13 : Kd.C (Kd.slice 2 (Kd.int .i64)) w A13 l13.length l13) (hc13 : l13.length ≤ c13) (z1 : Int) (hz1 : laws_szRelation.f k t0 s0 l02 l03 1048576 = some z1)  (hsz1 : z1 < 0) :
  Calls Tryd.prog 14 #[.agg #[.int .i64 t0, .int .i64 s0, .slice A02 l02.length c02, .slice A03 l03.length c03], .agg #[.int .i64 t1, .int .i64 s1, .slice A12 l12.length c12, .slice A13 l13.length c13]] w fun e w' => e = .returned (.bool true) ∧ Below w.heap.size w w' := by
 have HR02 := am hr02; have HC02 := am hc02; have HR03 := am hr03; have HC03 := am hc03; have HR12 := am hr12; have HC12 := am hc12; have HR13 := am hr13; have HC13 := am hc13; have HZ1 := am hz1; have HSZ1 := am hsz1; have HT := am htab; clear hr02 hc02 hr03 hc03 hr12 hc12 hr13 hc13 hz1 hsz1 htab; have HB_w := am (Below.refl w.heap.size w); go_enter Tryd.func14, Tryd.ntmps14
 go_wp2_with (fail)
 have HB_w1 := am (zx0 (zx0 (Below.refl w.heap.size w) (.cells #[.int .i64 t0, .int .i64 s0, .slice A02 l02.length c02, .slice A03 l03.length c03] 25)) (.cells #[.int .i64 t1, .int .i64 s1, .slice A12 l12.length c12, .slice A13 l13.length c13] 25)); have BXp0_w1 : zd0 (((((w.alloc (.cells #[.int .i64 t0, .int .i64 s0, .slice A02 l02.length c02, .slice A03 l03.length c03] 25)).alloc (.cells #[.int .i64 t1, .int .i64 s1, .slice A12 l12.length c12, .slice A13 l13.length c13] 25))).heap)[w.heap.size]? = some (.cells #[.int .i64 t0, .int .i64 s0, .slice A02 l02.length c02, .slice A03 l03.length c03] 25 (0, 0))) := am (by have q_ := (yc0 (yt0 w (.cells #[.int .i64 t0, .int .i64 s0, .slice A02 l02.length c02, .slice A03 l03.length c03] 25)) (.cells #[.int .i64 t1, .int .i64 s1, .slice A12 l12.length c12, .slice A13 l13.length c13] 25)); simpa using q_); have BXp1_w1 : zd0 (((((w.alloc (.cells #[.int .i64 t0, .int .i64 s0, .slice A02 l02.length c02, .slice A03 l03.length c03] 25)).alloc (.cells #[.int .i64 t1, .int .i64 s1, .slice A12 l12.length c12, .slice A13 l13.length c13] 25))).heap)[w.heap.size + 1]? = some (.cells #[.int .i64 t1, .int .i64 s1, .slice A12 l12.length c12, .slice A13 l13.length c13] 25 (0, 0))) := am (by have q_ := (yt0 (w.alloc (.cells #[.int .i64 t0, .int .i64 s0, .slice A02 l02.length c02, .slice A03 l03.length c03] 25)) (.cells #[.int .i64 t1, .int .i64 s1, .slice A12 l12.length c12, .slice A13 l13.length c13] 25)); simpa using q_); have HZ_w1 := am (show w.heap.size + 2 ≤ (((w.alloc (.cells #[.int .i64 t0, .int .i64 s0, .slice A02 l02.length c02, .slice A03 l03.length c03] 25)).alloc (.cells #[.int .i64 t1, .int .i64 s1, .slice A12 l12.length c12, .slice A13 l13.length c13] 25))).heap.size by simp); generalize ((w.alloc (.cells #[.int .i64 t0, .int .i64 s0, .slice A02 l02.length c02, .slice A03 l03.length c03] 25)).alloc (.cells #[.int .i64 t1, .int .i64 s1, .slice A12 l12.length c12, .slice A13 l13.length c13] 25)) = w1 at *; (with_reducible refine (laws_szRelation.calls k t0 s0 _ _ l02 _ _ l03 1048576 z1 _ (Kd.zv0 HR02.out HB_w1.out) HC02.out (Kd.zv0 HR03.out HB_w1.out) HC03.out HZ1.out).mono ?_); rintro e w2 ⟨rfl, hb⟩; have HZ_w2 := am (show w1.heap.size + 0 ≤ w2.heap.size by have := hb.size; omega); have HB_w2 := am (zn0 HB_w1.out HB_w1.out.size hb); have BXp0_w2 := am (zf0 BXp0_w1.out hb); have BXp1_w2 := am (zf0 BXp1_w1.out hb); clear HB_w1 BXp0_w1 BXp1_w1; clear hb; have hx_ : decide (z1 < 0) = true := decide_eq_true (by have q_ := HSZ1.out; omega); go_wp2; go_ret; exact ⟨rfl, HB_w2.out⟩
theorem laws_FnExactFirstUnlike.exit1 (k : Nat) (t0 s0 : Int) (A02 : Option Addr) (c02 : Nat) (l02 : List Bool) (A03 : Option Addr) (c03 : Nat) (l03 : List (List Int)) (t1 s1 : Int) (A12 : Option Addr) (c12 : Nat) (l12 : List Bool) (A13 : Option Addr) (c13 : Nat) (l13 : List (List Int)) (w : World) (htab : qz1 w) (hr02 : Kd.C Kd.bool w A02 l02.length l02) (hc02 : l02.length ≤ c02) (hr03 : Kd.C (Kd.slice 2 (Kd.int .i64)) w A03 l03.length l03) (hc03 : l03.length ≤ c03) (hr12 : Kd.C Kd.bool w A12 l12.length l12) (hc12 : l12.length ≤ c12) (hr13 : Kd.C (Kd.slice 2 (Kd.int .i64)) w A13 l13.length l13) (hc13 : l13.length ≤ c13) (z1 : Int) (z2 : Int) (hz1 : laws_szRelation.f k t0 s0 l02 l03 1048576 = some z1) (hz2 : laws_szRelation.f k t1 s1 l12 l13 z1 = some z2) (hsz1 : ¬ z1 < 0) (hsz2 : z2 < 0) :
  Calls Tryd.prog 14 #[.agg #[.int .i64 t0, .int .i64 s0, .slice A02 l02.length c02, .slice A03 l03.length c03], .agg #[.int .i64 t1, .int .i64 s1, .slice A12 l12.length c12, .slice A13 l13.length c13]] w fun e w' => e = .returned (.bool true) ∧ Below w.heap.size w w' := by
 have HR02 := am hr02; have HC02 := am hc02; have HR03 := am hr03; have HC03 := am hc03; have HR12 := am hr12; have HC12 := am hc12; have HR13 := am hr13; have HC13 := am hc13; have HZ1 := am hz1; have HZ2 := am hz2; have HSZ1 := am hsz1; have HSZ2 := am hsz2; have HT := am htab; clear hr02 hc02 hr03 hc03 hr12 hc12 hr13 hc13 hz1 hz2 hsz1 hsz2 htab; have HB_w := am (Below.refl w.heap.size w); go_enter Tryd.func14, Tryd.ntmps14
 go_wp2_with (fail)
 have HB_w1 := am (zx0 (zx0 (Below.refl w.heap.size w) (.cells #[.int .i64 t0, .int .i64 s0, .slice A02 l02.length c02, .slice A03 l03.length c03] 25)) (.cells #[.int .i64 t1, .int .i64 s1, .slice A12 l12.length c12, .slice A13 l13.length c13] 25)); have BXp0_w1 : zd0 (((((w.alloc (.cells #[.int .i64 t0, .int .i64 s0, .slice A02 l02.length c02, .slice A03 l03.length c03] 25)).alloc (.cells #[.int .i64 t1, .int .i64 s1, .slice A12 l12.length c12, .slice A13 l13.length c13] 25))).heap)[w.heap.size]? = some (.cells #[.int .i64 t0, .int .i64 s0, .slice A02 l02.length c02, .slice A03 l03.length c03] 25 (0, 0))) := am (by have q_ := (yc0 (yt0 w (.cells #[.int .i64 t0, .int .i64 s0, .slice A02 l02.length c02, .slice A03 l03.length c03] 25)) (.cells #[.int .i64 t1, .int .i64 s1, .slice A12 l12.length c12, .slice A13 l13.length c13] 25)); simpa using q_); have BXp1_w1 : zd0 (((((w.alloc (.cells #[.int .i64 t0, .int .i64 s0, .slice A02 l02.length c02, .slice A03 l03.length c03] 25)).alloc (.cells #[.int .i64 t1, .int .i64 s1, .slice A12 l12.length c12, .slice A13 l13.length c13] 25))).heap)[w.heap.size + 1]? = some (.cells #[.int .i64 t1, .int .i64 s1, .slice A12 l12.length c12, .slice A13 l13.length c13] 25 (0, 0))) := am (by have q_ := (yt0 (w.alloc (.cells #[.int .i64 t0, .int .i64 s0, .slice A02 l02.length c02, .slice A03 l03.length c03] 25)) (.cells #[.int .i64 t1, .int .i64 s1, .slice A12 l12.length c12, .slice A13 l13.length c13] 25)); simpa using q_); have HZ_w1 := am (show w.heap.size + 2 ≤ (((w.alloc (.cells #[.int .i64 t0, .int .i64 s0, .slice A02 l02.length c02, .slice A03 l03.length c03] 25)).alloc (.cells #[.int .i64 t1, .int .i64 s1, .slice A12 l12.length c12, .slice A13 l13.length c13] 25))).heap.size by simp); generalize ((w.alloc (.cells #[.int .i64 t0, .int .i64 s0, .slice A02 l02.length c02, .slice A03 l03.length c03] 25)).alloc (.cells #[.int .i64 t1, .int .i64 s1, .slice A12 l12.length c12, .slice A13 l13.length c13] 25)) = w1 at *; (with_reducible refine (laws_szRelation.calls k t0 s0 _ _ l02 _ _ l03 1048576 z1 _ (Kd.zv0 HR02.out HB_w1.out) HC02.out (Kd.zv0 HR03.out HB_w1.out) HC03.out HZ1.out).mono ?_); rintro e w2 ⟨rfl, hb⟩; have HZ_w2 := am (show w1.heap.size + 0 ≤ w2.heap.size by have := hb.size; omega); have HB_w2 := am (zn0 HB_w1.out HB_w1.out.size hb); have BXp0_w2 := am (zf0 BXp0_w1.out hb); have BXp1_w2 := am (zf0 BXp1_w1.out hb); clear HB_w1 BXp0_w1 BXp1_w1; clear hb; have hsz1 : decide (z1 < 0) = false := decide_eq_false (by have q_ := HSZ1.out; omega); obtain ⟨hx0_0, hx0_1, hx0_2, hx0_3⟩ := bc4 BXp1_w2.out
 go_wp2_with (fail)
 clear hx0_0 hx0_1 hx0_2 hx0_3; (with_reducible refine (laws_szRelation.calls k t1 s1 _ _ l12 _ _ l13 z1 z2 _ (Kd.zv0 HR12.out HB_w2.out) HC12.out (Kd.zv0 HR13.out HB_w2.out) HC13.out HZ2.out).mono ?_); rintro e w3 ⟨rfl, hb⟩; have HZ_w3 := am (show w2.heap.size + 0 ≤ w3.heap.size by have := hb.size; omega); have HB_w3 := am (zn0 HB_w2.out HB_w2.out.size hb); have BXp0_w3 := am (zf0 BXp0_w2.out hb); have BXp1_w3 := am (zf0 BXp1_w2.out hb); clear HB_w2 BXp0_w2 BXp1_w2; clear hb; have hx_ : decide (z2 < 0) = true := decide_eq_true (by have q_ := HSZ2.out; omega); go_wp2; go_ret; exact ⟨rfl, HB_w3.out⟩
theorem laws_FnExactFirstUnlike.calls (k : Nat) (t0 s0 : Int) (A02 : Option Addr) (c02 : Nat) (l02 : List Bool) (A03 : Option Addr) (c03 : Nat) (l03 : List (List Int)) (t1 s1 : Int) (A12 : Option Addr) (c12 : Nat) (l12 : List Bool) (A13 : Option Addr) (c13 : Nat) (l13 : List (List Int)) (w : World) (htab : qz1 w) (hr02 : Kd.C Kd.bool w A02 l02.length l02) (hc02 : l02.length ≤ c02) (hr03 : Kd.C (Kd.slice 2 (Kd.int .i64)) w A03 l03.length l03) (hc03 : l03.length ≤ c03) (hr12 : Kd.C Kd.bool w A12 l12.length l12) (hc12 : l12.length ≤ c12) (hr13 : Kd.C (Kd.slice 2 (Kd.int .i64)) w A13 l13.length l13) (hc13 : l13.length ≤ c13) (h : laws_FnExactFirstUnlike.f k t0 s0 l02 l03 t1 s1 l12 l13 = some true) :
  Calls Tryd.prog 14 #[.agg #[.int .i64 t0, .int .i64 s0, .slice A02 l02.length c02, .slice A03 l03.length c03], .agg #[.int .i64 t1, .int .i64 s1, .slice A12 l12.length c12, .slice A13 l13.length c13]] w fun e w' => e = .returned (.bool true) ∧ Below w.heap.size w w' := by
 unfold laws_FnExactFirstUnlike.f at h; obtain ⟨z1, hz1, h⟩ := oB h; by_cases hsz1 : z1 < 0
 case pos => exact laws_FnExactFirstUnlike.exit0 k t0 s0 A02 c02 l02 A03 c03 l03 t1 s1 A12 c12 l12 A13 c13 l13 w htab hr02 hc02 hr03 hc03 hr12 hc12 hr13 hc13 z1 hz1  hsz1
 rw [if_neg hsz1] at h; obtain ⟨z2, hz2, h⟩ := oB h; by_cases hsz2 : z2 < 0
 case pos => exact laws_FnExactFirstUnlike.exit1 k t0 s0 A02 c02 l02 A03 c03 l03 t1 s1 A12 c12 l12 A13 c13 l13 w htab hr02 hc02 hr03 hc03 hr12 hc12 hr13 hc13 z1 z2 hz1 hz2 hsz1 hsz2
 rw [if_neg hsz2] at h; by_cases ht0 : laws_toRelation.f k t0 s0 l02 l03 = some (t0, s0, l02, l03)
 case neg => rw [if_neg ht0] at h; cases h
 rw [if_pos ht0] at h; by_cases ht1 : laws_toRelation.f k t1 s1 l12 l13 = some (t1, s1, l12, l13)
 case neg => rw [if_neg ht1] at h; cases h
 rw [if_pos ht1] at h; obtain ⟨⟨r0, r1⟩, hS, h⟩ := oB h; dsimp only at h; by_cases hI : xm0.f k t0 s0 l02 l03 t1 s1 l12 l13 = some (r0, r1)
 case neg => rw [if_neg hI] at h; cases h
 rw [if_pos hI] at h; by_cases her : laws_eqStringS.f k r0 r0 = some true
 case neg => rw [if_neg her] at h; cases h
 rw [if_pos her] at h; by_cases he0 : laws_eqRelation.f k t0 s0 l02 l03 t0 s0 l02 l03 = some true
 case neg => rw [if_neg he0] at h; cases h
 rw [if_pos he0] at h; by_cases he1 : laws_eqRelation.f k t1 s1 l12 l13 t1 s1 l12 l13 = some true
 case neg => rw [if_neg he1] at h; cases h
 rw [if_pos he1] at h; obtain ⟨⟨m14a, l02m⟩, hm14a, h⟩ := oB h; dsimp only at h; obtain ⟨⟨m14, l03m⟩, hm14b, h⟩ := oB h; dsimp only at h; by_cases hn14 : m14 < 0
 case pos => rw [if_pos hn14] at h; cases h
 rw [if_neg hn14] at h; obtain ⟨⟨m15a, l12m⟩, hm15a, h⟩ := oB h; dsimp only at h; obtain ⟨⟨m15, l13m⟩, hm15b, h⟩ := oB h; dsimp only at h; by_cases hn15 : m15 < 0
 case pos => rw [if_pos hn15] at h; cases h
 rw [if_neg hn15] at h; obtain ⟨⟨m17, r0m⟩, hm17, h⟩ := oB h; dsimp only at h; by_cases hn17 : m17 < 0
 case pos => rw [if_pos hn17] at h; cases h
 rw [if_neg hn17] at h; by_cases hh : laws_heldStringS.f k r0m 1 = some m17
 case neg => rw [if_neg hh] at h; cases h
 rw [if_pos hh] at h; exact laws_FnExactFirstUnlike.main k t0 s0 A02 c02 l02 A03 c03 l03 t1 s1 A12 c12 l12 A13 c13 l13 w htab hr02 hc02 hr03 hc03 hr12 hc12 hr13 hc13 z1 z2 r0 r1 m14a l02m m14 l03m m15a l12m m15 l13m m17 r0m hz1 hz2 ht0 ht1 hS hI her he0 he1 hm14a hm14b hn14 hm15a hm15b hn15 hm17 hn17 hh hsz1 hsz2
def xg4 : DataW Unit → Array Value
 | .agg l => (l.map fun d => match d with | .lit x => x.value | _ => .bool false).toArray
 | _ => #[]
noncomputable def qj4 (w : World) (g : Nat) (d : DataW Unit) : World := { w with heap := w.heap.modify g fun
 | .cells _ t frozen => .cells (xg4 d) t frozen
 | o => o }
noncomputable def jw2 (os : Os) : World :=
 qj4 (qj4 (qj4 (World.holding Tryd.prog os ⟨#[], #[], []⟩) 1 Rows.laid_math_bits_deBruijn32tab) 2 Rows.laid_math_bits_deBruijn64tab) 0 Rows.laid_internal_strconv_uint64pow10
def qo3 : List (String × DataW Unit) := [("math/bits.deBruijn32tab", Rows.laid_math_bits_deBruijn32tab), ("math/bits.deBruijn64tab", Rows.laid_math_bits_deBruijn64tab), ("internal/strconv.uint64pow10", Rows.laid_internal_strconv_uint64pow10)]
theorem qd2 (os : Os) (args : Array Value) : laidMet Tryd.prog qo3 ((jw2 os).forCall (fun _ _ => 0) ⟨#[], args, []⟩).memory :=
 laidMet_of_run (ps := (List.range 32).map (MemPlace.cell 1) ++ (List.range 64).map (MemPlace.cell 2) ++ (List.range 20).map (MemPlace.cell 0)) 8 (by kernel_rfl) (by kernel_rfl) (by kernel_rfl)
theorem yc4 : (Rows.laid_internal_strconv_uint64pow10 : DataW Unit) = Lib.tabData .u64 Lib.pow10Tab := by kernel_rfl
theorem kv2 {W : World} (h : laidMet Tryd.prog qo3 W) : Lib.TabIs Tryd.prog W "internal/strconv.uint64pow10" .u64 Lib.pow10Tab := by
 obtain ⟨ps, ⟨_, _, _, _, _, _, _, _, _, _, ⟨_, _, _, _, _, _, _, _, _, _, ⟨g', t', cs, fuel, p, q, hg', ht', hvar, hd, _, _⟩, _⟩, _⟩, _⟩ := h
 obtain rfl := Option.some.inj ((show Tryd.prog.globalNamed "internal/strconv.uint64pow10" = some 0 by kernel_rfl).symm.trans hg')
 obtain rfl := Option.some.inj ((show (Tryd.prog.globals[0]?).map (·.type) = some 146 by kernel_rfl).symm.trans ht'); rw [yc4] at hd; unfold Lib.TabIs; rw [hvar, ← Lib.cells_of_tab Tryd.underlying146 Tryd.underlying140 (by kernel_rfl) (by kernel_rfl) hd]
theorem zw4 {W : World} (h : laidMet Tryd.prog qo3 W) : qz1 W := Lib.tabBelow_of_tabIs (kv2 h)
open Go.ChangeShapes Go.WideShapes Go.ChangeAt Go.Deep Go.Joins
/-- The rows of a relation, as a law's world reads them. -/
def kw4 (W : World) (A2 : Option Addr) (c2 : Nat) (l2 : List Bool) (A3 : Option Addr) (c3 : Nat) (l3 : List (List Int)) : Prop :=
 Kd.C Kd.bool W A2 l2.length l2 ∧ l2.length ≤ c2 ∧ Kd.C (Kd.slice 2 (Kd.int .i64)) W A3 l3.length l3 ∧ l3.length ≤ c3 ∧ l2.length ≤ 9223372036854775807 ∧ l3.length ≤ 9223372036854775807 ∧ (∀ x ∈ l3, x.length ≤ 9223372036854775807) ∧ ∀ x ∈ l3, ∀ n ∈ x, (Lit.int .i64 n).wf = true
theorem xy2 {H : Type} {enc : TypeId × Value → H} {W : World} {base : Nat} {held : Bool} {fuel : Nat} {v : Value} {x : DataW H × List MemPlace} (h : DataW.trod enc Tryd.prog W base (fun _ => true) held fuel 22 [v] = some x) :
  ∃ (A : Option Addr) (c : Nat) (l : List Bool), v = .slice A l.length c ∧ Kd.C Kd.bool W A l.length l ∧ l.length ≤ c ∧ l.length ≤ 9223372036854775807 := by
 rcases open_bools Tryd.underlying22 Tryd.underlying4 (by kernel_rfl) h with ⟨hcs, _⟩ | ⟨a, len, cap, B, hcs, _, hl, hm, _, hcell⟩
 ·simp at hcs; exact ⟨none, 0, [], by simpa using hcs, ⟨rfl, by simp, fun h => absurd h (by simp)⟩, by simp, by simp⟩
 ·simp at hcs; have hm' : cap ≤ 9223372036854775807 := hm; refine ⟨some a, cap, (List.range len).map B, by simpa using hcs, ⟨rfl, by simp; omega, fun _ => ⟨a, rfl, fun j p hj => ?_⟩⟩, by simpa using hl, by simp; omega⟩; have hjl := (List.getElem?_eq_some_iff.1 hj).1; simp at hjl; refine ⟨[.bool p], rfl, rfl, fun i u hu => ?_⟩
  have hi : i = 0 := by
   have := (List.getElem?_eq_some_iff.1 hu).1; simp at this; omega
  subst hi; simp at hu hj; obtain ⟨_, hj⟩ := hj; subst hu; rw [show j * Kd.bool.sz + 0 = j by simp [show Kd.bool.sz = 1 from rfl], hcell j (by omega)]
  simp_all
theorem jm2 {W : World} {A : Option Addr} {L C : Nat} {Z : List Int} (hL : L ≤ C) (hC : C ≤ maxLen) (hZ : Z.length = C) (hN : A = none → C = 0) (hA : ∀ a', A = some a' → ∀ c, c < C → W.cell? (a'.add c) = some (.int .i64 (Z.getD c 0))) :
  Kd.C (Kd.int .i64) W A (Z.take L).length (Z.take L) := by
 have hC' : C ≤ 9223372036854775807 := hC; refine ⟨rfl, by simp; omega, fun h => ?_⟩
 cases A with
 | none => have := hN rfl; simp at h; omega
 | some a =>
  refine ⟨a, rfl, fun j p hj => ?_⟩; have hjl := (List.getElem?_eq_some_iff.1 hj).1; simp at hjl; refine ⟨[.int .i64 p], rfl, rfl, fun i u hu => ?_⟩
  have hi : i = 0 := by
   have := (List.getElem?_eq_some_iff.1 hu).1; simp at this; omega
  subst hi; simp at hu; subst hu; rw [show j * (Kd.int .i64).sz + 0 = j by simp [show (Kd.int .i64).sz = 1 from rfl], hA a rfl j (by omega)]; rw [List.getElem?_take] at hj; rw [if_pos (by omega)] at hj; simp [List.getD_eq_getElem?_getD, hj]
theorem ka3 {H : Type} {enc : TypeId × Value → H} {W : World} {base : Nat} {held : Bool} {fuel : Nat} {v : Value} {x : DataW H × List MemPlace} (h : DataW.trod enc Tryd.prog W base (fun _ => true) held fuel 23 [v] = some x) :
  ∃ (A : Option Addr) (c : Nat) (l : List (List Int)), v = .slice A l.length c ∧ Kd.C (Kd.slice 2 (Kd.int .i64)) W A l.length l ∧ l.length ≤ c ∧ l.length ≤ 9223372036854775807 ∧ (∀ x ∈ l, x.length ≤ 9223372036854775807) ∧ ∀ x ∈ l, ∀ n ∈ x, (Lit.int .i64 n).wf = true := by
 rcases open_int_rows Tryd.underlying23 Tryd.underlying42 Tryd.underlying2 (by kernel_rfl) (by kernel_rfl) h with ⟨hcs, _⟩ | ⟨a, len, cap, A, L, C, Z, hcs, _, hl, hm, _, hr⟩
 ·simp at hcs; exact ⟨none, 0, [], by simpa using hcs, ⟨rfl, by simp, fun h => absurd h (by simp)⟩, by simp, by simp, by simp, by simp⟩
 ·simp at hcs; have hm' : cap ≤ 9223372036854775807 := hm; refine ⟨some a, cap, (List.range len).map fun r => (Z r).take (L r), by simpa using hcs, ⟨rfl, by simp; omega, fun _ => ⟨a, rfl, fun j p hj => ?_⟩⟩, by simpa using hl, by simp; omega, ?_, ?_⟩
  ·have hjl := (List.getElem?_eq_some_iff.1 hj).1; simp at hjl; obtain ⟨g1, g2, g3, g4, g5, g6, g7⟩ := hr j (by omega); simp at hj; obtain ⟨_, hj⟩ := hj; (have ep : p = (Z j).take (L j) := by simp_all); subst ep; (have el : ((Z j).take (L j)).length = L j := by simp; omega); refine ⟨[.slice (A j) ((Z j).take (L j)).length (C j)], rfl, ⟨A j, C j, rfl, by omega, jm2 g2 g3 g4 g6 fun a' ha => (g7 a' ha).2⟩, fun i u hu => ?_⟩
   have hi : i = 0 := by
    have := (List.getElem?_eq_some_iff.1 hu).1; simp at this; omega
   subst hi; rw [List.getElem?_cons_zero] at hu; injection hu with hu; subst hu; rw [show j * (Kd.slice 2 (Kd.int .i64)).sz + 0 = j by simp [show (Kd.slice 2 (Kd.int .i64)).sz = 1 from rfl], g1, el]
  ·intro y hy; obtain ⟨r, hrm, rfl⟩ := List.mem_map.1 hy; obtain ⟨g1, g2, g3, g4, g5, g6, g7⟩ := hr r (by have := List.mem_range.1 hrm; omega); have g3' : C r ≤ 9223372036854775807 := g3; simp; omega
  ·intro y hy n hn; obtain ⟨r, hrm, rfl⟩ := List.mem_map.1 hy; obtain ⟨g1, g2, g3, g4, g5, g6, g7⟩ := hr r (by have := List.mem_range.1 hrm; omega); exact g5 n (List.mem_of_mem_take hn)
theorem yp3 {H : Type} {enc : TypeId × Value → H} {W : World} {base : Nat} {held : Bool} {r : Reach} {b0 : Nat} {v : Value} {d : DataW H} {p : List MemPlace} (hv : Value.okWide Tryd.prog W r b0 25 v) (h : DataW.Trod enc Tryd.prog W base (fun _ => true) held 25 v d p) :
  ∃ (t s : Int) (A2 : Option Addr) (c2 : Nat) (l2 : List Bool) (A3 : Option Addr) (c3 : Nat) (l3 : List (List Int)), v = .agg #[.int .i64 t, .int .i64 s, .slice A2 l2.length c2, .slice A3 l3.length c3] ∧ (Lit.int .i64 t).wf = true ∧ (Lit.int .i64 s).wf = true ∧ kw4 W A2 c2 l2 A3 c3 l3 := by
 obtain ⟨v0, v1, v2, v3, y0, y1, y2, y3, n, rfl, _, _, h0, h1, h2, h3⟩ := open_agg4 Tryd.underlying25 (by kernel_rfl) (by kernel_rfl) hv h; obtain ⟨t, e0, _, w0⟩ := DataW.trod_int Tryd.underlying2 h0; obtain ⟨s, e1, _, w1⟩ := DataW.trod_int Tryd.underlying2 h1; injection e0 with e0; injection e1 with e1; subst e0; subst e1; obtain ⟨A2, c2, l2, rfl, g1, g2, g3⟩ := xy2 h2; obtain ⟨A3, c3, l3, rfl, k1, k2, k3, k4, k5⟩ := ka3 h3; exact ⟨t, s, A2, c2, l2, A3, c3, l3, rfl, w0, w1, g1, g2, k1, k2, g3, k3, k4, k5⟩
section
variable {K K' : Type} [DecidableEq K] [DecidableEq K'] {φ : K → K'} {S : K → Prop}
omit [DecidableEq K] [DecidableEq K'] in
theorem zj2 (hinj : ∀ a b, S a → S b → φ a = φ b → a = b) {l : List K} (hl : ∀ k ∈ l, S k) {t : K} (ht : S t) : φ t ∈ l.map φ ↔ t ∈ l := by
 constructor
 ·intro h; obtain ⟨a, ha, he⟩ := List.mem_map.1 h; exact hinj _ _ (hl a ha) ht he ▸ ha
 ·exact List.mem_map_of_mem
theorem qh2 (hinj : ∀ a b, S a → S b → φ a = φ b → a = b) {l : List K} (hl : ∀ k ∈ l, S k) {t : K} (ht : S t) : (l.map φ).idxOf (φ t) = l.idxOf t := by
 induction l with
 | nil => rfl
 | cons a l ih =>
  rw [List.map_cons, List.idxOf_cons, List.idxOf_cons, ih (fun k hk => hl k (List.mem_cons_of_mem _ hk))]; by_cases e : a = t
  ·subst e; simp
  ·have e' : ¬ φ a = φ t := fun h => e (hinj _ _ (hl a (by simp)) ht h); rw [beq_eq_false_iff_ne.2 e, beq_eq_false_iff_ne.2 e']
theorem zu3 (hinj : ∀ a b, S a → S b → φ a = φ b → a = b) {good : K → Bool} {good' : K' → Bool} {nx : Int → Option K} {nx' : Int → Option K'} {W : Nat}
  (hnx : ∀ c k, 0 ≤ c → c < (W : Int) → nx c = some k → S k ∧ nx' c = some (φ k) ∧ good' (φ k) = true) :
  ∀ (m : Nat) (c : Int) (l : List K) (row : List Int) (l1 : List K) (row1 : List Int), 0 ≤ c → c + m = (W : Int) → (∀ k ∈ l, S k) → xv0 good nx m c l row = some (l1, row1) →
   xv0 good' nx' m c (l.map φ) row = some (l1.map φ, row1) ∧ ∀ k ∈ l1, S k := by
 intro m
 induction m with
 | zero =>
  intro c l row l1 row1 _ _ hl h
  simp only [xv0, Option.some.injEq, Prod.mk.injEq] at h ⊢
  obtain ⟨rfl, rfl⟩ := h; exact ⟨⟨rfl, rfl⟩, hl⟩
 | succ m ih =>
  intro c l row l1 row1 h0 h1 hl h; simp only [xv0] at h; obtain ⟨t, ht, h⟩ := oB h
  split at h
  ·obtain ⟨hS, hn, hg⟩ := hnx c t h0 (by omega) ht; simp only [xv0, hn, Option.bind_some, hg, if_true]; rw [qh2 hinj hl hS, List.length_map]; by_cases e : t ∈ l
   ·rw [if_pos e] at h; rw [if_pos ((zj2 hinj hl hS).2 e)]; exact ih _ _ _ _ _ (by omega) (by omega) hl h
   ·rw [if_neg e] at h; rw [if_neg (fun h => e ((zj2 hinj hl hS).1 h))]
    split at h
    ·next hlt =>
     rw [if_pos hlt]; have := ih _ (l ++ [t]) _ _ _ (by omega) (by omega) (by intro k hk; rcases List.mem_append.1 hk with hk | hk; exact hl k hk; simp at hk; exact hk ▸ hS) h
     simpa using this
    ·cases h
  ·cases h
theorem kq3 (hinj : ∀ a b, S a → S b → φ a = φ b → a = b) {good : K → Bool} {good' : K' → Bool} {acc : K → Option Bool} {acc' : K' → Option Bool} {next : K → Int → Option K} {next' : K' → Int → Option K'} {W : Nat}
  (hnx : ∀ k c t, S k → 0 ≤ c → c < (W : Int) → next k c = some t → S t ∧ next' (φ k) c = some (φ t) ∧ good' (φ t) = true) (hac : ∀ k b, S k → acc k = some b → acc' (φ k) = some b) :
  ∀ (f : Nat) (l : List K) (bs : List Bool) (rs : List (List Int)) (r : List Bool × List (List Int)), (∀ k ∈ l, S k) → xy0 good acc next W f l bs rs = some r → xy0 good' acc' next' W f (l.map φ) bs rs = some r := by
 intro f
 induction f with
 | zero => intro l bs rs r _ h; simp [xy0] at h
 | succ f ih =>
  intro l bs rs r hl h
  simp only [xy0] at h ⊢
  rw [List.getElem?_map]
  cases e : l[bs.length]? with
  | none => rw [e] at h; simpa using h
  | some k =>
   rw [e] at h
   simp only [Option.map_some] at h ⊢
   have hk : S k := hl k (List.mem_of_getElem? e); obtain ⟨p, hp, h⟩ := oB h; obtain ⟨b, hb, h⟩ := oB h; obtain ⟨hr, hS⟩ := zu3 (W := W) hinj (fun c t c0 c1 ht => hnx k c t hk c0 c1 ht) W 0 l [] p.1 p.2 (by omega) (by omega) hl hp; rw [hr]; simp only [Option.bind_some, hac k b hk hb]; exact ih _ _ _ _ hS h
theorem xg2 {good : K → Bool} {acc : K → Option Bool} {next : K → Int → Option K} {W : Nat} : ∀ (f d : Nat) (l : List K) (bs : List Bool) (rs : List (List Int)) (r : List Bool × List (List Int)), xy0 good acc next W f l bs rs = some r → xy0 good acc next W (f + d) l bs rs = some r := by
 intro f
 induction f with
 | zero => intro d l bs rs r h; simp [xy0] at h
 | succ f ih =>
  intro d l bs rs r h; rw [Nat.add_right_comm]
  simp only [xy0] at h ⊢
  cases e : l[bs.length]? with
  | none => rw [e] at h; exact h
  | some k =>
   rw [e] at h
   simp only at h ⊢
   obtain ⟨p, hp, h⟩ := oB h; obtain ⟨b, hb, h⟩ := oB h; rw [hp]; simp only [Option.bind_some, hb]; exact ih d _ _ _ _ h
theorem xf2 {good : K → Bool} {acc : K → Option Bool} {next : K → Int → Option K} {W f g : Nat} {l : List K} {bs : List Bool} {rs : List (List Int)} {r s : List Bool × List (List Int)} (h : xy0 good acc next W f l bs rs = some r) (h2 : xy0 good acc next W g l bs rs = some s) : r = s := by
 have a := xg2 f g _ _ _ _ h; have b := xg2 g f _ _ _ _ h2; rw [Nat.add_comm] at b; exact Option.some.inj (a.symm.trans b)
theorem jy0 {K : Type} [DecidableEq K] : ∀ (a b : List K), a.Nodup → (∀ k ∈ a, k ∈ b) → a.length ≤ b.length := by
 intro a
 induction a with
 | nil => intro b _ _; simp
 | cons x a ih =>
  intro b hn hs; have hx : x ∈ b := hs x (by simp); have hn' := List.nodup_cons.1 hn; have := ih (b.erase x) hn'.2 (fun k hk => (List.mem_erase_of_ne (fun e : k = x => hn'.1 (by rw [← e]; exact hk))).2 (hs k (by simp [hk]))); rw [List.length_erase_of_mem hx] at this; have := List.length_pos_of_mem hx; simp only [List.length_cons]; omega
theorem kb2 {U : List K} (hU : U.length ≤ 1900000) {good : K → Bool} {nx : Int → Option K} {W : Nat} (hnx : ∀ c, 0 ≤ c → c < (W : Int) → ∃ t, nx c = some t ∧ good t = true ∧ t ∈ U) :
  ∀ (m : Nat) (c : Int) (l : List K) (row : List Int), 0 ≤ c → c + m = (W : Int) → l.Nodup → (∀ k ∈ l, k ∈ U) → ∃ l1 row1, xv0 good nx m c l row = some (l ++ l1, row ++ row1) ∧ (l ++ l1).Nodup ∧ (∀ k ∈ l ++ l1, k ∈ U) ∧ row1.length = m ∧ ∀ x ∈ row1, 0 ≤ x ∧ x < ((l ++ l1).length : Int) := by
 intro m
 induction m with
 | zero => intro c l row _ _ hn hl; exact ⟨[], [], by simp [xv0], by simpa using hn, by simpa using hl, rfl, by simp⟩
 | succ m ih =>
  intro c l row h0 h1 hn hl; obtain ⟨t, ht, hg, hu⟩ := hnx c h0 (by omega); simp only [xv0, ht, Option.bind_some, hg, if_true]; by_cases e : t ∈ l
  ·rw [if_pos e]; obtain ⟨l1, row1, h, hn1, hl1, hr, hx⟩ := ih (c + 1) l (row ++ [(l.idxOf t : Int)]) (by omega) (by omega) hn hl; refine ⟨l1, (l.idxOf t : Int) :: row1, by simpa using h, hn1, hl1, by simp [hr], ?_⟩; intro x hx'
   rcases List.mem_cons.1 hx' with rfl | hx'
   ·have := List.idxOf_lt_length_iff.2 e; simp only [List.length_append]; omega
   ·exact hx x hx'
  ·rw [if_neg e]; have hn' : (l ++ [t]).Nodup := List.nodup_append.2 ⟨hn, by simp, fun a ha b hb => by simp at hb; subst hb; exact fun he => e (he ▸ ha)⟩
   have hl' : ∀ k ∈ l ++ [t], k ∈ U := by
    intro k hk
    rcases List.mem_append.1 hk with hk | hk
    ·exact hl k hk
    ·simp at hk; exact hk ▸ hu
   have := jy0 _ _ hn' hl'; rw [if_pos (by simp at this; omega)]; obtain ⟨l1, row1, h, hn1, hl1, hr, hx⟩ := ih (c + 1) (l ++ [t]) (row ++ [(l.length : Int)]) (by omega) (by omega) hn' hl'; refine ⟨t :: l1, (l.length : Int) :: row1, by simpa using h, by simpa using hn1, by simpa using hl1, by simp [hr], ?_⟩; intro x hx'
   rcases List.mem_cons.1 hx' with rfl | hx'
   ·simp only [List.length_append, List.length_cons]; omega
   ·simpa using hx x hx'
theorem ya1 {U : List K} (hU : U.length ≤ 1900000) {good : K → Bool} {acc : K → Option Bool} {next : K → Int → Option K} {W : Nat} (hnx : ∀ k c, k ∈ U → 0 ≤ c → c < (W : Int) → ∃ t, next k c = some t ∧ good t = true ∧ t ∈ U) (hac : ∀ k ∈ U, ∃ b, acc k = some b) :
  ∀ (f : Nat) (l : List K) (bs : List Bool) (rs : List (List Int)), l.Nodup → (∀ k ∈ l, k ∈ U) → bs.length ≤ l.length → U.length < f + bs.length → ∃ r, xy0 good acc next W f l bs rs = some r := by
 intro f
 induction f with
 | zero =>
  intro l bs rs hn hl hb hf; have := jy0 _ _ hn hl; omega
 | succ f ih =>
  intro l bs rs hn hl hb hf; simp only [xy0]
  cases e : l[bs.length]? with
  | none => exact ⟨_, rfl⟩
  | some k =>
   simp only; have hk : k ∈ U := hl k (List.mem_of_getElem? e); obtain ⟨l1, row1, h, hn1, hl1, _⟩ := kb2 hU (fun c c0 c1 => hnx k c hk c0 c1) W 0 l [] (by omega) (by omega) hn hl; obtain ⟨b, hb'⟩ := hac k hk; rw [h]; simp only [Option.bind_some, hb']; have : bs.length < l.length := (List.getElem?_eq_some_iff.1 e).1; exact ih _ _ _ hn1 hl1 (by simp; omega) (by simp; omega)
end
section
variable (W n : Nat) (ac : List Bool) (ns : List (List Int))
/-- One round: g1 parts what g parts, or what a column leads to parts by g; its values are 0 .. m - 1, each met. -/
structure kg1 (g g1 : Int → Int) (m : Nat) : Prop where
 iff : ∀ i j, 0 ≤ i → i < (n : Int) → 0 ≤ j → j < (n : Int) → (g1 i = g1 j ↔ (g i = g j ∧ ∀ c, 0 ≤ c → c < (W : Int) → g (stp ns i c) = g (stp ns j c)))
 lo : ∀ i, 0 ≤ i → i < (n : Int) → 0 ≤ g1 i ∧ g1 i < (m : Int)
 met : ∀ k : Nat, k < m → ∃ i, 0 ≤ i ∧ i < (n : Int) ∧ g1 i = (k : Int)
/-- What holds of the classes all the time. -/
structure yv1 (g : Int → Int) : Prop where
 coarse : ∀ i j, 0 ≤ i → i < (n : Int) → 0 ≤ j → j < (n : Int) → lng W ac ns i = lng W ac ns j → g i = g j
 acc : ∀ i j, 0 ≤ i → i < (n : Int) → 0 ≤ j → j < (n : Int) → g i = g j → rdOf false ac i = rdOf false ac j
/-- The classes are those of the languages. -/
def js1 (g : Int → Int) : Prop := ∀ i j, 0 ≤ i → i < (n : Int) → 0 ≤ j → j < (n : Int) → (g i = g j ↔ lng W ac ns i = lng W ac ns j)
variable {W n ac ns} {g g1 : Int → Int} {m : Nat}
theorem qh4 {i j : Int} (h : lng W ac ns i = lng W ac ns j) {c : Int} (c0 : 0 ≤ c) (c1 : c < (W : Int)) : lng W ac ns (stp ns i c) = lng W ac ns (stp ns j c) := by
 funext w
 have := congrFun h (c :: w)
 simpa [lng, c0, c1] using this
theorem yv1.next (hT : yp0 W n ns) (h : yv1 W n ac ns g) (hf : kg1 W n ns g g1 m) : yv1 W n ac ns g1 := by
 refine ⟨fun i j i0 i1 j0 j1 e => (hf.iff i j i0 i1 j0 j1).2 ⟨h.coarse i j i0 i1 j0 j1 e, fun c c0 c1 => ?_⟩, fun i j i0 i1 j0 j1 e => h.acc i j i0 i1 j0 j1 ((hf.iff i j i0 i1 j0 j1).1 e).1⟩; have a := hT.stpd i0 i1 c0 c1; have b := hT.stpd j0 j1 c0 c1; exact h.coarse _ _ a.1 a.2 b.1 b.2 (qh4 e c0 c1)
/-- Numbers from 0 on that are all met lie in a list that is as long at least. -/
theorem xh2 : ∀ (m : Nat) (l : List Int), (∀ k : Nat, k < m → (k : Int) ∈ l) → m ≤ l.length := by
 intro m l h
 have := jy0 ((List.range m).map (fun k : Nat => (k : Int))) l (List.pairwise_map.2 (List.nodup_range.imp (fun {a b} e h => e (by have h : (a : Int) = (b : Int) := h; omega)))) (by
  intro k hk; obtain ⟨a, ha, rfl⟩ := List.mem_map.1 hk
  exact h a (List.mem_range.1 ha))
 simpa using this
theorem kg1.reps (hf : kg1 W n ns g g1 m) : ∃ reps : List Int, reps.length = m ∧ ∀ k : Nat, k < m → 0 ≤ rd reps k ∧ rd reps k < (n : Int) ∧ g1 (rd reps k) = (k : Int) := by
 have : ∀ d : Nat, d ≤ m → ∃ reps : List Int, reps.length = d ∧ ∀ k : Nat, k < d → 0 ≤ rd reps k ∧ rd reps k < (n : Int) ∧ g1 (rd reps k) = (k : Int) := by
  intro d
  induction d with
  | zero => exact fun _ => ⟨[], rfl, fun k hk => by omega⟩
  | succ d ih =>
   intro hd; obtain ⟨reps, hl, hr⟩ := ih (by omega); obtain ⟨i, i0, i1, hi⟩ := hf.met d (by omega); refine ⟨reps ++ [i], by simp [hl], fun k hk => ?_⟩; by_cases e : k < d
   ·(have : rd (reps ++ [i]) k = rd reps k := by simp [rd, List.getD_eq_getElem?_getD, List.getElem?_append_left (show k < reps.length by omega)]); rw [this]; exact hr k e
   ·(obtain rfl : k = d := by omega); (have : rd (reps ++ [i]) k = i := by simp [rd, List.getD_eq_getElem?_getD, ← hl]); rw [this]; exact ⟨i0, i1, hi⟩
 exact this m (Nat.le_refl _)
theorem xn4 {l : List Int} {k : Nat} (h : k < l.length) : rd l k ∈ l := by
 simp only [rd, Int.toNat_natCast, List.getD_eq_getElem?_getD, List.getElem?_eq_getElem h, Option.getD_some]; exact List.getElem_mem h
/-- kg1 classes are as many at least. -/
theorem kg1.le (hf : kg1 W n ns g g1 m) {m0 : Nat} (hm : ∀ k : Nat, k < m0 → ∃ i, 0 ≤ i ∧ i < (n : Int) ∧ g i = (k : Int)) : m0 ≤ m := by
 obtain ⟨reps, hl, hr⟩ := hf.reps
 have := xh2 m0 (reps.map g) (by
  intro k hk; obtain ⟨i, i0, i1, hi⟩ := hm k hk; obtain ⟨a0, a1⟩ := hf.lo i i0 i1; (have hk1 : (g1 i).toNat < m := by omega); obtain ⟨b0, b1, b2⟩ := hr _ hk1; (have e : g1 (rd reps (g1 i).toNat) = g1 i := by rw [b2]; omega); rw [← hi, ← ((hf.iff _ _ b0 b1 i0 i1).1 e).1]
  exact List.mem_map_of_mem (xn4 (by omega)))
 simpa [hl] using this
/-- As many classes as before: the same ones. -/
theorem kg1.same (hf : kg1 W n ns g g1 m) (hm : ∀ k : Nat, k < m → ∃ i, 0 ≤ i ∧ i < (n : Int) ∧ g i = (k : Int)) {i j : Int} (i0 : 0 ≤ i) (i1 : i < (n : Int)) (j0 : 0 ≤ j) (j1 : j < (n : Int)) (h : g i = g j) : g1 i = g1 j := by
 obtain ⟨reps, hl, hr⟩ := hf.reps; refine Classical.byContradiction fun hne => ?_; obtain ⟨a0, a1⟩ := hf.lo i i0 i1; obtain ⟨b0, b1⟩ := hf.lo j j0 j1
 have key : ∀ x, 0 ≤ x → x < (n : Int) → g (rd reps (g1 x).toNat) = g x := by
  intro x x0 x1; obtain ⟨c0, c1⟩ := hf.lo x x0 x1; obtain ⟨d0, d1, d2⟩ := hr (g1 x).toNat (by omega); exact ((hf.iff _ _ d0 d1 x0 x1).1 (by rw [d2]; omega)).1
 have := xh2 m ((reps.eraseIdx (g1 j).toNat).map g) (by
  intro k hk; obtain ⟨x, x0, x1, hx⟩ := hm k hk; obtain ⟨c0, c1⟩ := hf.lo x x0 x1
  -- the place of x, or of i where x stands at j's
  have pos : ∃ p : Nat, p < m ∧ p ≠ (g1 j).toNat ∧ g (rd reps p) = (k : Int) := by
   by_cases e : g1 x = g1 j
   ·refine ⟨(g1 i).toNat, by omega, by omega, ?_⟩; rw [key i i0 i1, h, ← ((hf.iff x j x0 x1 j0 j1).1 e).1, hx]
   ·exact ⟨(g1 x).toNat, by omega, by omega, by rw [key x x0 x1, hx]⟩
  obtain ⟨p, hp, hpj, hg⟩ := pos; rw [← hg]; refine List.mem_map_of_mem ?_; rw [List.mem_eraseIdx_iff_getElem?]
  exact ⟨p, hpj, by simp [rd, List.getD_eq_getElem?_getD, List.getElem?_eq_getElem (show p < reps.length by omega)]⟩)
 rw [List.length_map, List.length_eraseIdx_of_lt (by omega)] at this; omega
theorem yv1.eq (hT : yp0 W n ns) (h : yv1 W n ac ns g) (hf : kg1 W n ns g g1 m) (hm : ∀ k : Nat, k < m → ∃ i, 0 ≤ i ∧ i < (n : Int) ∧ g i = (k : Int)) : js1 W n ac ns g1 := by
 have h1 := h.next hT hf; intro i j i0 i1 j0 j1; refine ⟨fun e => ?_, h1.coarse i j i0 i1 j0 j1⟩
 funext w
 induction w generalizing i j with
 | nil => simpa [lng] using h1.acc i j i0 i1 j0 j1 e
 | cons c w ih =>
  simp only [lng]; by_cases c0 : 0 ≤ c
  ·by_cases c1 : c < (W : Int)
   ·have a := hT.stpd i0 i1 c0 c1; have b := hT.stpd j0 j1 c0 c1; rw [ih _ _ a.1 a.2 b.1 b.2 (hf.same hm a.1 a.2 b.1 b.2 (((hf.iff i j i0 i1 j0 j1).1 e).2 c c0 c1))]
   ·simp [c1]
  ·simp [c0]
end
theorem kq0 : ∀ (u : Nat), ∀ c ∈ Lib.decDigits u, c ≠ 44 ∧ c ≠ 45 := by
 intro u
 induction u using Nat.strongRecOn with
 | _ u ih =>
  intro c hc; (have key : ∀ d < 10, UInt8.ofNat (48 + d) ≠ 44 ∧ UInt8.ofNat (48 + d) ≠ 45 := by decide); rw [Lib.decDigits] at hc
  split at hc
  ·next h =>
   obtain rfl := List.mem_singleton.1 hc; exact key u h
  ·next h =>
   rcases List.mem_append.1 hc with hc | hc
   ·exact ih (u / 10) (by omega) c hc
   ·obtain rfl := List.mem_singleton.1 hc; exact key (u % 10) (by omega)
theorem ki2 {a b : Nat} (ha : a < 10) (hb : b < 10) (h : UInt8.ofNat (48 + a) = UInt8.ofNat (48 + b)) : a = b := by
 have := congrArg UInt8.toNat h; simp at this; omega
theorem ka1 (u : Nat) : Lib.decDigits u ≠ [] := by
 rw [Lib.decDigits]
 split <;> simp
theorem qx1 : ∀ (u v : Nat), Lib.decDigits u = Lib.decDigits v → u = v := by
 intro u
 induction u using Nat.strongRecOn with
 | _ u ih =>
  intro v h; rw [Lib.decDigits, Lib.decDigits.eq_def v] at h
  split at h
  ·next hu =>
   split at h
   ·next hv => exact ki2 hu hv (by simpa using h)
   ·next hv =>
    have := List.append_inj_left' (s₁ := []) h (by simp); exact absurd this.symm (ka1 _)
  ·next hu =>
   split at h
   ·next hv =>
    have := List.append_inj_left' (s₂ := []) h (by simp); exact absurd this (ka1 _)
   ·next hv =>
    have h1 := List.append_inj_left' h (by simp); have h2 := List.append_inj_right' h (by simp); have := ih (u / 10) (by omega) _ h1; have := ki2 (a := u % 10) (b := v % 10) (by omega) (by omega) (by simpa using h2); omega
theorem qu1 (n : Int) : ∀ c ∈ Lib.itoa n, c ≠ 44 := by
 intro c hc; unfold Lib.itoa at hc
 split at hc
 ·rcases List.mem_cons.1 hc with rfl | hc
  ·decide
  ·exact (kq0 _ c hc).1
 ·exact (kq0 _ c hc).1
theorem yv3 (a b : Int) (h : Lib.itoa a = Lib.itoa b) : a = b := by
 unfold Lib.itoa at h
 split at h
 ·next ha =>
  split at h
  ·next hb =>
   injection h with _ h; have := qx1 _ _ h; omega
  ·next hb => exact absurd rfl (kq0 _ 45 (by rw [← h]; simp)).2
 ·next ha =>
  split at h
  ·next hb => exact absurd rfl (kq0 _ 45 (by rw [h]; simp)).2
  ·next hb =>
   have := qx1 _ _ h; omega
theorem kb4 : ∀ (a b r s : List UInt8), (∀ c ∈ a, c ≠ 44) → (∀ c ∈ b, c ≠ 44) → (r = [] ∨ ∃ t, r = 44 :: t) → (s = [] ∨ ∃ t, s = 44 :: t) → a ++ r = b ++ s → a = b ∧ r = s := by
 intro a
 induction a with
 | nil =>
  intro b r s _ hb hr hs h
  cases b with
  | nil => exact ⟨rfl, h⟩
  | cons y b =>
   rcases hr with rfl | ⟨t, rfl⟩
   ·simp at h
   ·simp only [List.nil_append, List.cons_append, List.cons.injEq] at h; exact absurd h.1.symm (hb y (by simp))
 | cons x a ih =>
  intro b r s ha hb hr hs h
  cases b with
  | nil =>
   rcases hs with rfl | ⟨t, rfl⟩
   ·simp at h
   ·simp only [List.nil_append, List.cons_append, List.cons.injEq] at h; exact absurd h.1 (ha x (by simp))
  | cons y b =>
   simp only [List.cons_append, List.cons.injEq] at h; obtain ⟨e, h2⟩ := ih b r s (fun c hc => ha c (by simp [hc])) (fun c hc => hb c (by simp [hc])) hr hs h.2; exact ⟨by rw [h.1, e], h2⟩
def jo0 (l : List Int) : List UInt8 := l.flatMap fun g => 44 :: Lib.itoa g
theorem zq1 (l : List Int) : jo0 l = [] ∨ ∃ t, jo0 l = 44 :: t := by
 cases l with
 | nil => exact .inl rfl
 | cons x l => exact .inr ⟨_, by simp [jo0]; rfl⟩
theorem ku2 : ∀ (k l : List Int), jo0 k = jo0 l → k = l := by
 intro k
 induction k with
 | nil =>
  intro l h
  cases l with
  | nil => rfl
  | cons y l => simp [jo0] at h
 | cons x k ih =>
  intro l h
  cases l with
  | nil => simp [jo0] at h
  | cons y l =>
   (have h' : Lib.itoa x ++ jo0 k = Lib.itoa y ++ jo0 l := by simpa [jo0] using h); obtain ⟨e, h2⟩ := kb4 _ _ _ _ (qu1 x) (qu1 y) (zq1 k) (zq1 l) h'; rw [yv3 _ _ e, ih l h2]
theorem qt0 {α : Type} {d : α} {xs : List α} {i : Int} (h0 : 0 ≤ i) (h1 : i < (xs.length : Int)) : at1 d xs i = some (rdOf d xs i) := by
 unfold at1; rw [if_pos ⟨h0, h1⟩]
theorem ql4 (group : List Int) : ∀ (row : List Int) (key : List UInt8), (∀ q ∈ row, 0 ≤ q ∧ q < (group.length : Int)) → keyL group row key = some (key ++ jo0 (row.map (rd group))) := by
 intro row
 induction row with
 | nil => intro key _; simp [keyL, jo0]
 | cons q r ih =>
  intro key h; have hq := h q (by simp); rw [keyL, qt0 hq.1 hq.2]; simp only [Option.bind_some]; rw [ih _ (fun q hq => h q (by simp [hq]))]; simp [jo0, rdOf, rd]
section
variable {κ : Type} [DecidableEq κ]
def jw1 : List κ → Nat → List κ → List Int → List κ × List Int
 | [], _, keys, next => (keys, next)
 | k :: ks, i, keys, next => if k ∈ keys then jw1 ks (i + 1) keys (next.set i (keys.idxOf k : Int)) else jw1 ks (i + 1) (keys ++ [k]) (next.set i (keys.length : Int))
theorem yn3 {a b : List Int} {x y : Int} {i : Nat} (h : i = a.length) : (a ++ y :: b).set i x = a ++ x :: b := by
 subst h; simp
theorem jr3 : ∀ (ks : List κ) (i : Nat) (keys : List κ) (done rest : List Int), done.length = i → rest.length = ks.length → keys.Nodup →
  ∃ D, jw1 ks i keys (done ++ rest) = (keys ++ D, done ++ ks.map fun k => ((keys ++ D).idxOf k : Int)) ∧ (keys ++ D).Nodup ∧ (∀ k ∈ ks, k ∈ keys ++ D) ∧ ∀ d ∈ D, d ∈ ks := by
 intro ks
 induction ks with
 | nil =>
  intro i keys done rest h1 h2 h3; (have : rest = [] := by cases rest; rfl; simp at h2); subst this; exact ⟨[], by simp [jw1], by simpa using h3, by simp, by simp⟩
 | cons k ks ih =>
  intro i keys done rest h1 h2 h3
  cases rest with
  | nil => simp at h2
  | cons y rest =>
   simp only [jw1]; rw [yn3 h1.symm, yn3 h1.symm]; by_cases e : k ∈ keys
   ·rw [if_pos e]; obtain ⟨D, hr, hn, hk, hd⟩ := ih (i + 1) keys (done ++ [(keys.idxOf k : Int)]) rest (by simp [h1]) (by simpa using h2) h3; refine ⟨D, ?_, hn, ?_, fun d hd' => by simp [hd d hd']⟩
    ·rw [show done ++ (keys.idxOf k : Int) :: rest = done ++ [(keys.idxOf k : Int)] ++ rest by simp, hr]; simp [List.idxOf_append, e]
    ·intro x hx
     rcases List.mem_cons.1 hx with rfl | hx
     ·simp [e]
     ·exact hk x hx
   ·rw [if_neg e]; have hn' : (keys ++ [k]).Nodup := List.nodup_append.2 ⟨h3, by simp, fun a ha b hb => by simp at hb; subst hb; exact fun he => e (he ▸ ha)⟩; obtain ⟨D, hr, hn, hk, hd⟩ := ih (i + 1) (keys ++ [k]) (done ++ [(keys.length : Int)]) rest (by simp [h1]) (by simpa using h2) hn'; refine ⟨k :: D, ?_, by simpa using hn, ?_, ?_⟩
    ·rw [show done ++ (keys.length : Int) :: rest = done ++ [(keys.length : Int)] ++ rest by simp, hr]; simp [List.idxOf_append, e]
    ·intro x hx
     rcases List.mem_cons.1 hx with rfl | hx
     ·simp
     ·simpa using hk x hx
    ·intro d hd'
     rcases List.mem_cons.1 hd' with rfl | hd'
     ·simp
     ·simp [hd d hd']
/-- A round over keys that tell what 'Finer' asks. -/
theorem kz2 {W n : Nat} {ns : List (List Int)} {g : Int → Int} {ks : List κ} (hl : ks.length = n)
  (hk : ∀ i j : Nat, i < n → j < n → (ks[i]? = ks[j]? ↔ (g i = g j ∧ ∀ c, 0 ≤ c → c < (W : Int) → g (stp ns i c) = g (stp ns j c)))) :
  ∃ D l, jw1 ks 0 [] (List.replicate n 0) = (D, l) ∧ l.length = n ∧ D.length ≤ n ∧ kg1 W n ns g (rd l) D.length := by
 obtain ⟨D, hr, hn, hm, hd⟩ := jr3 ks 0 [] [] (List.replicate n 0) rfl (by simp [hl]) (by simp); simp only [List.nil_append] at hr hn hm hd; refine ⟨D, _, hr, by simp [hl], ?_, ?_⟩
 ·have := jy0 D ks hn hd; omega
 have hrd : ∀ i : Nat, i < n → ∃ k, ks[i]? = some k ∧ k ∈ D ∧ rd (ks.map fun k => (D.idxOf k : Int)) i = (D.idxOf k : Int) := by
  intro i hi; (have hi' : i < ks.length := by omega); refine ⟨ks[i], List.getElem?_eq_getElem hi', hm _ (List.getElem_mem hi'), ?_⟩; simp [rd, List.getD_eq_getElem?_getD, List.getElem?_eq_getElem hi']
 have cast : ∀ i : Int, 0 ≤ i → i < (n : Int) → ∃ m : Nat, i = (m : Int) ∧ m < n := fun i h0 h1 => ⟨i.toNat, by omega, by omega⟩; refine ⟨?_, ?_, ?_⟩
 ·intro i j i0 i1 j0 j1; obtain ⟨i, rfl, hi⟩ := cast i i0 i1; obtain ⟨j, rfl, hj⟩ := cast j j0 j1; obtain ⟨a, ha, ham, har⟩ := hrd i hi; obtain ⟨b, hb, hbm, hbr⟩ := hrd j hj; rw [har, hbr, ← hk i j hi hj, ha, hb]; constructor
  ·intro h; (have h' : D.idxOf a = D.idxOf b := by omega); (have e1 : D[D.idxOf a]? = some a := by rw [List.getElem?_eq_getElem (List.idxOf_lt_length_iff.2 ham), List.getElem_idxOf]); (have e2 : D[D.idxOf b]? = some b := by rw [List.getElem?_eq_getElem (List.idxOf_lt_length_iff.2 hbm), List.getElem_idxOf]); rw [← Option.some.inj (e1.symm.trans ((congrArg (fun k => D[k]?) h').trans e2))]
  ·intro h; injection h with h; rw [h]
 ·intro i i0 i1; obtain ⟨i, rfl, hi⟩ := cast i i0 i1; obtain ⟨a, ha, ham, har⟩ := hrd i hi; rw [har]; have := List.idxOf_lt_length_iff.2 ham; omega
 ·intro k hkD; have hmem : D[k] ∈ ks := hd _ (List.getElem_mem hkD); obtain ⟨i, hi, he⟩ := List.getElem_of_mem hmem; refine ⟨(i : Int), by omega, by omega, ?_⟩; obtain ⟨a, ha, ham, har⟩ := hrd i (by omega); rw [har]; rw [List.getElem?_eq_getElem hi, he] at ha; obtain rfl := Option.some.inj ha; rw [hn.idxOf_getElem]
end
def yp2 (group : List Int) : List (List Int) → Nat → List (List UInt8)
 | [], _ => []
 | row :: rs, i => (Lib.itoa (rd group i) ++ jo0 (row.map (rd group))) :: yp2 group rs (i + 1)
theorem kj3 (group : List Int) : ∀ rs i, (yp2 group rs i).length = rs.length := by
 intro rs
 induction rs with
 | nil => intro i; rfl
 | cons row rs ih => intro i; simp [yp2, ih]
theorem yu3 (group : List Int) : ∀ (rs : List (List Int)) (i j : Nat), (yp2 group rs i)[j]? = (rs[j]?).map fun row => Lib.itoa (rd group ((i + j : Nat) : Int)) ++ jo0 (row.map (rd group)) := by
 intro rs
 induction rs with
 | nil => intro i j; simp [yp2]
 | cons row rs ih =>
  intro i j
  cases j with
  | zero => simp [yp2]
  | succ j =>
   simp only [yp2, List.getElem?_cons_succ, ih]; rw [show i + 1 + j = i + (j + 1) by omega]
theorem jq3 (group : List Int) : ∀ (rs : List (List Int)) (i : Nat) (keys : List (List UInt8)) (next : List Int), i + rs.length ≤ group.length → (∀ row ∈ rs, ∀ q ∈ row, 0 ≤ q ∧ q < (group.length : Int)) → qh1 group rs i keys next = some (jw1 (yp2 group rs i) i keys next) := by
 intro rs
 induction rs with
 | nil => intro i keys next _ _; rfl
 | cons row rs ih =>
  intro i keys next hl h; simp only [List.length_cons] at hl; rw [qh1, qt0 (xs := group) (i := (i : Int)) (by omega) (by omega)]; simp only [Option.bind_some]; rw [ql4 group row _ (h row (by simp))]; simp only [Option.bind_some, yp2, jw1]; have e : rdOf 0 group (i : Int) = rd group (i : Int) := rfl; rw [e]; unfold idxG
  split
  ·exact ih (i + 1) _ _ (by omega) (fun r hr => h r (by simp [hr]))
  ·exact ih (i + 1) _ _ (by omega) (fun r hr => h r (by simp [hr]))
theorem xo4 {l : List Int} {g : Int → Int} {c : Int} (c0 : 0 ≤ c) (c1 : c < (l.length : Int)) : rd (l.map g) c = g (rd l c) := by
 (have : c.toNat < l.length := by omega); simp [rd, List.getD_eq_getElem?_getD, List.getElem?_eq_getElem this]
theorem qk3 {l k : List Int} {g : Int → Int} {W : Nat} (hl : l.length = W) (hk : k.length = W) : l.map g = k.map g ↔ ∀ c, 0 ≤ c → c < (W : Int) → g (rd l c) = g (rd k c) := by
 constructor
 ·intro h c c0 c1; rw [← xo4 (l := l) (g := g) c0 (by omega), ← xo4 (l := k) (g := g) c0 (by omega), h]
 ·intro h; refine List.ext_getElem (by simp [hl, hk]) fun i h1 h2 => ?_; simp only [List.length_map] at h1 h2; have := h (i : Int) (by omega) (by omega)
  simpa [rd, List.getD_eq_getElem?_getD, List.getElem?_eq_getElem h1, List.getElem?_eq_getElem h2] using this
theorem je2 {W n : Nat} {ns : List (List Int)} (hT : yp0 W n ns) {group : List Int} (hg : group.length = n) :
  ∃ D l, qh1 group ns 0 [] (List.replicate group.length 0) = some (D, l) ∧ l.length = n ∧ D.length ≤ n ∧ kg1 W n ns (rd group) (rd l) D.length := by
 have hks : (yp2 group ns 0).length = n := by rw [kj3, hT.1]
 obtain ⟨D, l, hr, hl, hD, hf⟩ := kz2 (W := W) (ns := ns) (g := rd group) hks (by
  intro i j hi hj; (have hi' : i < ns.length := by rw [hT.1]; exact hi); (have hj' : j < ns.length := by rw [hT.1]; exact hj); rw [yu3, yu3, List.getElem?_eq_getElem hi', List.getElem?_eq_getElem hj']; simp only [Option.map_some, Option.some.injEq, Nat.zero_add]; (have ei : ∀ c, stp ns (i : Int) c = rd ns[i] c := fun c => by simp [stp, List.getD_eq_getElem?_getD, List.getElem?_eq_getElem hi']); (have ej : ∀ c, stp ns (j : Int) c = rd ns[j] c := fun c => by simp [stp, List.getD_eq_getElem?_getD, List.getElem?_eq_getElem hj']); simp only [ei, ej]; rw [← qk3 (hT.2 _ (List.getElem_mem hi')).1 (hT.2 _ (List.getElem_mem hj')).1]; constructor
  ·intro h; obtain ⟨a, b⟩ := kb4 _ _ _ _ (qu1 _) (qu1 _) (zq1 _) (zq1 _) h; exact ⟨yv3 _ _ a, ku2 _ _ b⟩
  ·intro h
   rw [h.1, h.2])
 refine ⟨D, l, ?_, hl, hD, hf⟩; rw [jq3 group ns 0 [] _ (by rw [hT.1]; omega) (fun row hrow q hq => by have := (hT.2 row hrow).2 q hq; omega), hg, hr]
theorem zm3 {W n : Nat} {ac : List Bool} {ns : List (List Int)} (hT : yp0 W n ns) : ∀ (f count : Nat) (group : List Int), group.length = n → yv1 W n ac ns (rd group) → count ≤ n → (∀ k : Nat, k < count → ∃ i, 0 ≤ i ∧ i < (n : Int) ∧ rd group i = (k : Int)) → n + 1 ≤ f + count →
  ∃ g, yt1 ns f count group = some g ∧ g.length = n ∧ js1 W n ac ns (rd g) ∧ ∀ i, 0 ≤ i → i < (n : Int) → 0 ≤ rd g i ∧ rd g i < (n : Int) := by
 intro f
 induction f with
 | zero => intro count group _ _ h1 _ h2; omega
 | succ f ih =>
  intro count group hg hC hc hm hf; obtain ⟨D, l, hr, hl, hD, hfin⟩ := je2 hT hg; simp only [yt1, hr, Option.bind_some]; by_cases e : D.length = count
  ·rw [if_pos e]; subst e; exact ⟨l, rfl, hl, hC.eq hT hfin hm, fun i i0 i1 => by have := hfin.lo i i0 i1; omega⟩
  ·rw [if_neg e]; have := hfin.le hm; exact ih _ _ hl (hC.next hT hfin) hD hfin.met (by omega)
theorem xj2 {W n : Nat} {ac : List Bool} {ns : List (List Int)} (hn : ac.length = n) : yv1 W n ac ns (rd (bitL ac)) := by
 have e : ∀ i : Int, rd (bitL ac) i = if rdOf false ac i then 1 else 0 := by
  intro i; unfold rd bitL rdOf; rw [List.getD_eq_getElem?_getD, List.getD_eq_getElem?_getD, List.getElem?_map]
  cases ac[i.toNat]? <;> simp
 refine ⟨fun i j i0 i1 j0 j1 h => ?_, fun i j i0 i1 j0 j1 h => ?_⟩
 ·have := congrFun h []; simp only [lng] at this; rw [e, e, this]
 ·rw [e, e] at h
  revert h
  cases rdOf false ac i <;> cases rdOf false ac j <;> simp
/-- Each class has one of its states. -/
theorem kb3 {n m : Nat} {gr : List Int} (hgl : gr.length = n) (hgr : ∀ x ∈ gr, 0 ≤ x ∧ x < (m : Int)) : ∀ (l : List Int) (i : Nat) (one : List Int), (∀ j : Nat, j < l.length → l[j]? = gr[i + j]?) → i + l.length = n → one.length = m → (∀ g ∈ l, 0 ≤ g ∧ g < (m : Int)) →
  (∀ j : Nat, j < i → ∀ x, gr[j]? = some x → 0 ≤ rd one x ∧ rd one x < (n : Int) ∧ rd gr (rd one x) = x) →
  ∃ o, oneL l i one = some o ∧ o.length = m ∧ ∀ j : Nat, j < n → ∀ x, gr[j]? = some x → 0 ≤ rd o x ∧ rd o x < (n : Int) ∧ rd gr (rd o x) = x := by
 intro l
 induction l with
 | nil =>
  intro i one h1 h2 h3 h4 h5; simp only [List.length_nil, Nat.add_zero] at h2; subst h2; exact ⟨one, rfl, h3, h5⟩
 | cons g l ih =>
  intro i one h1 h2 h3 h4 h5; have hg := h4 g (by simp); (have hgi : gr[i]? = some g := by simpa using (h1 0 (by simp)).symm); rw [oneL, if_pos ⟨hg.1, by omega⟩]
  have rds : ∀ x, 0 ≤ x → rd (one.set g.toNat (i : Int)) x = if x = g then (i : Int) else rd one x := by
   intro x x0; unfold rd; rw [List.getD_eq_getElem?_getD, List.getD_eq_getElem?_getD, List.getElem?_set]; by_cases e : x = g
   ·subst e; rw [if_pos rfl, if_pos rfl, if_pos (by omega)]; simp
   ·rw [if_neg (by omega), if_neg e]
  refine ih (i + 1) _ (fun j hj => ?_) (by simp only [List.length_cons] at h2; omega) (by simpa using h3) (fun g hg => h4 g (by simp [hg])) ?_
  ·have := h1 (j + 1) (by simp; omega); rw [List.getElem?_cons_succ] at this; rw [this]
   congr 1
   omega
  ·intro j hj x hx; have hx0 : 0 ≤ x := (hgr x (List.mem_of_getElem? hx)).1; rw [rds x hx0]; by_cases e : x = g
   ·rw [if_pos e]; subst e; simp only [List.length_cons] at h2; exact ⟨by omega, by omega, by simp [rd, List.getD_eq_getElem?_getD, hgi]⟩
   ·rw [if_neg e]; refine h5 j ?_ x hx; by_cases e2 : j = i
    ·subst e2; rw [hgi] at hx; exact absurd (Option.some.inj hx).symm e
    ·omega
open Classical in
/-- The tidy table of a language: its states are languages. -/
noncomputable def kt1 (W f : Nat) (L : List Int → Bool) : Option (List Bool × List (List Int)) :=
 xy0 (fun _ => true) (fun L => some (L [])) (fun L c => some fun w => L (c :: w)) W f [L] [] []
theorem je1 {W f g : Nat} {L : List Int → Bool} {r s : List Bool × List (List Int)} (h : kt1 W f L = some r) (h2 : kt1 W g L = some s) : r = s := by
 classical exact xf2 h h2
theorem qd4 {l : List Int} {i : Nat} {x : Int} (h : l[i]? = some x) : rd l (i : Int) = x := by
 simp [rd, List.getD_eq_getElem?_getD, h]
theorem yy3 {l : List Int} {i : Int} (h0 : 0 ≤ i) (h1 : i < (l.length : Int)) : l[i.toNat]? = some (rd l i) := by
 (have : i.toNat < l.length := by omega); simp [rd, List.getD_eq_getElem?_getD, List.getElem?_eq_getElem this]
theorem qf3 {W n : Nat} {ac : List Bool} {ns : List (List Int)} (hT : yp0 W n ns) (hn : ac.length = n) (h1 : n ≤ 1900000) {start : Int} (s0 : 0 ≤ start) (s1 : start < (n : Int)) {f : Nat} (hf : n + 2 ≤ f) :
  ∃ r, yi1 W f start ac ns = some r ∧ kt1 W f (lng W ac ns start) = some r := by
 obtain ⟨gr, hg, hgl, hE, hb⟩ := zm3 (W := W) (ac := ac) hT f 0 (bitL ac) (by simp [bitL, hn]) (xj2 hn) (by omega) (fun k hk => by omega) (by omega)
 have hgr : ∀ x ∈ gr, 0 ≤ x ∧ x < (n : Int) := by
  intro x hx; obtain ⟨i, hi, he⟩ := List.getElem_of_mem hx; have := hb (i : Int) (by omega) (by omega); rw [qd4 (x := x) (by rw [List.getElem?_eq_getElem hi, he])] at this; exact this
 obtain ⟨o, ho, hol, hoo⟩ := kb3 (n := n) (m := n) hgl hgr gr 0 (List.replicate n 0) (fun j _ => by rw [Nat.zero_add]) (by omega) (by simp) hgr (fun j hj => by omega)
 have one : ∀ i, 0 ≤ i → i < (n : Int) → 0 ≤ rd o (rd gr i) ∧ rd o (rd gr i) < (n : Int) ∧ rd gr (rd o (rd gr i)) = rd gr i := by
  intro i i0 i1; exact hoo i.toNat (by omega) _ (yy3 i0 (by omega))
 have lone : ∀ i, 0 ≤ i → i < (n : Int) → lng W ac ns (rd o (rd gr i)) = lng W ac ns i := by
  intro i i0 i1; obtain ⟨a, b, c⟩ := one i i0 i1; exact (hE _ _ a b i0 i1).1 c
 have hacc : ∀ i, 0 ≤ i → i < (n : Int) → accM o ac (rd gr i) = some (rdOf false ac i) := by
  intro i i0 i1; obtain ⟨a, b, c⟩ := one i i0 i1; obtain ⟨d, e⟩ := hb i i0 i1; unfold accM; rw [if_pos d, if_pos (by omega), if_pos a, if_pos (by omega)]; have := congrFun (lone i i0 i1) []; simp only [lng] at this; rw [this]
 have hnext : ∀ i c, 0 ≤ i → i < (n : Int) → 0 ≤ c → c < (W : Int) → ∃ j, 0 ≤ j ∧ j < (n : Int) ∧ qe3 gr o ns (rd gr i) c = some (rd gr j) ∧ lng W ac ns j = fun w => lng W ac ns i (c :: w) := by
  intro i c i0 i1 c0 c1; obtain ⟨a, b, h⟩ := one i i0 i1; obtain ⟨d, e⟩ := hb i i0 i1; have hs := hT.stpd a b c0 c1; refine ⟨stp ns (rd o (rd gr i)) c, hs.1, hs.2, ?_, ?_⟩
  ·have hrow := hT.row a b; unfold qe3; rw [qt0 d (by omega)]; simp only [Option.bind_some]; rw [show rdOf 0 o (rd gr i) = rd o (rd gr i) from rfl, qt0 a (by rw [hT.1]; exact b)]; simp only [Option.bind_some]; rw [show rdOf [] ns (rd o (rd gr i)) = ns.getD (rd o (rd gr i)).toNat [] from rfl, qt0 c0 (by rw [(hT.2 _ hrow).1]; exact c1)]; simp only [Option.bind_some]; exact qt0 (i := stp ns (rd o (rd gr i)) c) hs.1 (by omega)
  ·funext w
   have := congrFun (lone i i0 i1) (c :: w); rw [← this]; simp [lng, c0, c1]
 have hin : ∀ i, 0 ≤ i → i < (n : Int) → zl1 (rd gr i) = true := by
  intro i i0 i1; obtain ⟨d, e⟩ := hb i i0 i1; simp only [zl1, Bool.and_eq_true, decide_eq_true_eq]; omega
 have total : ∃ r, xy0 zl1 (accM o ac) (qe3 gr o ns) W f [rd gr start] [] [] = some r := by
  refine ya1 (U := gr) (by omega) (fun k c hk c0 c1 => ?_) (fun k hk => ?_) f _ [] [] (by simp) (by intro k hk; simp at hk; subst hk; exact List.mem_of_getElem? (yy3 s0 (by omega))) (by simp) (by simp; omega)
  ·obtain ⟨i, hi, he⟩ := List.getElem_of_mem hk; have ei : rd gr (i : Int) = k := qd4 (by rw [List.getElem?_eq_getElem hi, he]); obtain ⟨j, j0, j1, hj, _⟩ := hnext i c (by omega) (by omega) c0 c1; rw [ei] at hj; exact ⟨_, hj, hin j j0 j1, List.mem_of_getElem? (yy3 j0 (by omega))⟩
  ·obtain ⟨i, hi, he⟩ := List.getElem_of_mem hk; have ei : rd gr (i : Int) = k := qd4 (by rw [List.getElem?_eq_getElem hi, he]); exact ⟨_, by rw [← ei]; exact hacc i (by omega) (by omega)⟩
 obtain ⟨r, hr⟩ := total; refine ⟨r, ?_, ?_⟩
 ·unfold yi1; rw [hg]; simp only [Option.bind_some]; rw [hgl, ho]; simp only [Option.bind_some]; rw [qt0 s0 (by omega)]; simp only [Option.bind_some]; rw [show rdOf 0 gr start = rd gr start from rfl, if_pos (hin start s0 s1), hr]
 ·classical
  have := kq3 (φ := fun k => lng W ac ns (rd o k)) (S := fun k => ∃ i, 0 ≤ i ∧ i < (n : Int) ∧ rd gr i = k) (K' := List Int → Bool) (good' := fun _ => true) (acc' := fun L => some (L [])) (next' := fun L c => some fun w => L (c :: w)) (W := W)
   (by
    rintro a b ⟨i, i0, i1, rfl⟩ ⟨j, j0, j1, rfl⟩ h; have h' : lng W ac ns (rd o (rd gr i)) = lng W ac ns (rd o (rd gr j)) := h; rw [lone i i0 i1, lone j j0 j1] at h'
    exact (hE i j i0 i1 j0 j1).2 h')
   (by
    rintro k c t ⟨i, i0, i1, rfl⟩ c0 c1 ht; obtain ⟨j, j0, j1, hj, hl⟩ := hnext i c i0 i1 c0 c1; rw [hj] at ht; obtain rfl := Option.some.inj ht; refine ⟨⟨j, j0, j1, rfl⟩, ?_, rfl⟩; show some (fun w => lng W ac ns (rd o (rd gr i)) (c :: w)) = some (lng W ac ns (rd o (rd gr j)))
    rw [lone i i0 i1, lone j j0 j1, hl])
   (by
    rintro k b ⟨i, i0, i1, rfl⟩ hb'; rw [hacc i i0 i1] at hb'; obtain rfl := Option.some.inj hb'; show some (lng W ac ns (rd o (rd gr i)) []) = _; rw [lone i i0 i1]
    rfl)
   f [rd gr start] [] [] r (by intro k hk; simp at hk; subst hk; exact ⟨start, s0, s1, rfl⟩) hr
  have e : ([rd gr start].map fun k => lng W ac ns (rd o k)) = [lng W ac ns start] := by
   simp only [List.map_cons, List.map_nil]; rw [lone start s0 s1]
  rw [e] at this; exact this
section
variable {K : Type} [DecidableEq K] {good : K → Bool} {acc : K → Option Bool} {next : K → Int → Option K} {W : Nat}
theorem zs3 {nx : Int → Option K} : ∀ (m : Nat) (c : Int) (l : List K) (row : List Int) (l1 : List K) (row1 : List Int), xv0 good nx m c l row = some (l1, row1) → l.length ≤ 1900000 →
  ∃ d e, l1 = l ++ d ∧ row1 = row ++ e ∧ e.length = m ∧ l1.length ≤ 1900000 ∧ (∀ k ∈ d, ∃ j : Nat, j < m ∧ nx (c + j) = some k) ∧ ∀ j : Nat, j < m → ∃ (t : K) (i : Nat), nx (c + j) = some t ∧ e[j]? = some (i : Int) ∧ l1[i]? = some t := by
 intro m
 induction m with
 | zero =>
  intro c l row l1 row1 h hl; simp only [xv0, Option.some.injEq, Prod.mk.injEq] at h; obtain ⟨rfl, rfl⟩ := h; exact ⟨[], [], by simp, by simp, rfl, hl, by simp, by simp⟩
 | succ m ih =>
  intro c l row l1 row1 h hl; simp only [xv0] at h; obtain ⟨t, ht, h⟩ := oB h
  split at h
  ·split at h
   ·next e =>
    obtain ⟨d, e1, rfl, rfl, hm, hl1, hd, hj⟩ := ih _ _ _ _ _ h hl; refine ⟨d, (l.idxOf t : Int) :: e1, rfl, by simp, by simp [hm], hl1, ?_, ?_⟩
    ·intro k hk; obtain ⟨j, hj1, hj2⟩ := hd k hk; exact ⟨j + 1, by omega, by rw [← hj2]; congr 1; omega⟩
    ·intro j hjm
     cases j with
     | zero => exact ⟨t, l.idxOf t, by simpa using ht, by simp, by rw [List.getElem?_append_left (List.idxOf_lt_length_iff.2 e), List.getElem?_eq_getElem (List.idxOf_lt_length_iff.2 e), List.getElem_idxOf]⟩
     | succ j =>
      obtain ⟨t', i, h1, h2, h3⟩ := hj j (by omega); exact ⟨t', i, by rw [← h1]; congr 1; omega, by simpa using h2, h3⟩
   ·split at h
    ·next e hlt =>
     obtain ⟨d, e1, rfl, rfl, hm, hl1, hd, hj⟩ := ih _ _ _ _ _ h (by simp; omega); refine ⟨t :: d, (l.length : Int) :: e1, by simp, by simp, by simp [hm], hl1, ?_, ?_⟩
     ·intro k hk
      rcases List.mem_cons.1 hk with rfl | hk
      ·exact ⟨0, by omega, by simpa using ht⟩
      ·obtain ⟨j, hj1, hj2⟩ := hd k hk; exact ⟨j + 1, by omega, by rw [← hj2]; congr 1; omega⟩
     ·intro j hjm
      cases j with
      | zero => exact ⟨t, l.length, by simpa using ht, by simp, by simp⟩
      | succ j =>
       obtain ⟨t', i, h1, h2, h3⟩ := hj j (by omega); exact ⟨t', i, by rw [← h1]; congr 1; omega, by simpa using h2, h3⟩
    ·cases h
  ·cases h
/-- The rows and marks made so far, of the states l. -/
structure yh3 (acc : K → Option Bool) (next : K → Int → Option K) (W : Nat) (S : K → Prop) (l : List K) (bs : List Bool) (rs : List (List Int)) : Prop where
 len : rs.length = bs.length
 le : bs.length ≤ l.length
 few : l.length ≤ 1900000
 all : ∀ k ∈ l, S k
 acc : ∀ (i : Nat) b, bs[i]? = some b → ∃ k, l[i]? = some k ∧ acc k = some b
 row : ∀ (i : Nat) row, rs[i]? = some row → row.length = W ∧ ∃ k, l[i]? = some k ∧ ∀ j : Nat, j < W → ∃ (t : K) (q : Nat), next k j = some t ∧ row[j]? = some (q : Int) ∧ l[q]? = some t
theorem zs2 {α : Type} {l d : List α} {i : Nat} {k : α} (h : l[i]? = some k) : (l ++ d)[i]? = some k := by
 rw [List.getElem?_append_left (List.getElem?_eq_some_iff.1 h).1]; exact h
theorem zv3 {S : K → Prop} (hS : ∀ k c t, S k → 0 ≤ c → c < (W : Int) → next k c = some t → S t) : ∀ (f : Nat) (l : List K) (bs : List Bool) (rs : List (List Int)) (r : List Bool × List (List Int)), yh3 acc next W S l bs rs → xy0 good acc next W f l bs rs = some r →
  ∃ d, yh3 acc next W S (l ++ d) r.1 r.2 ∧ r.1.length = (l ++ d).length := by
 intro f
 induction f with
 | zero => intro l bs rs r _ h; simp [xy0] at h
 | succ f ih =>
  intro l bs rs r hG h; simp only [xy0] at h
  cases e : l[bs.length]? with
  | none =>
   rw [e] at h; obtain rfl := Option.some.inj h; refine ⟨[], by simpa using hG, ?_⟩; have := List.getElem?_eq_none_iff.1 e; have := hG.le; simp; omega
  | some k =>
   rw [e] at h; simp only at h; obtain ⟨p, hp, h⟩ := oB h; obtain ⟨b, hb, h⟩ := oB h; obtain ⟨p1, p2⟩ := p; obtain ⟨d, e1, rfl, rfl, hm, hl1, hd, hj⟩ := zs3 _ _ _ _ _ _ hp hG.few; have hk : S k := hG.all k (List.mem_of_getElem? e); have hlt := (List.getElem?_eq_some_iff.1 e).1
   have hG' : yh3 acc next W S (l ++ d) (bs ++ [b]) (rs ++ [p2]) := by
    refine ⟨by simp [hG.len], by simp; omega, hl1, ?_, ?_, ?_⟩
    ·intro x hx
     rcases List.mem_append.1 hx with hx | hx
     ·exact hG.all x hx
     ·obtain ⟨j, hj1, hj2⟩ := hd x hx; exact hS k _ x hk (by omega) (by omega) hj2
    ·intro i b' hb'; by_cases ei : i < bs.length
     ·rw [List.getElem?_append_left ei] at hb'; obtain ⟨k', h1, h2⟩ := hG.acc i b' hb'; exact ⟨k', zs2 h1, h2⟩
     ·have hi : i = bs.length := by
       have := (List.getElem?_eq_some_iff.1 hb').1; simp at this; omega
      subst hi; rw [List.getElem?_append_right (Nat.le_refl _)] at hb'; simp at hb'; subst hb'; exact ⟨k, zs2 e, hb⟩
    ·intro i row hr; by_cases ei : i < rs.length
     ·rw [List.getElem?_append_left ei] at hr; obtain ⟨h0, k', h1, h2⟩ := hG.row i row hr; refine ⟨h0, k', zs2 h1, fun j hjW => ?_⟩; obtain ⟨t, q, a, b', c⟩ := h2 j hjW; exact ⟨t, q, a, b', zs2 c⟩
     ·have hi : i = rs.length := by
       have := (List.getElem?_eq_some_iff.1 hr).1; simp at this; omega
      subst hi; rw [List.getElem?_append_right (Nat.le_refl _)] at hr; simp at hr; subst hr; refine ⟨by simpa using hm, k, zs2 (by rw [hG.len]; exact e), fun j hjW => ?_⟩; obtain ⟨t, q, a, b', c⟩ := hj j hjW; exact ⟨t, q, by rw [← a]; congr 1; omega, by simpa using b', c⟩
   obtain ⟨d', h1, h2⟩ := ih _ _ _ _ hG' h; exact ⟨d ++ d', by simpa using h1, by simpa using h2⟩
theorem yk1 {S : K → Prop} {Λ : K → List Int → Bool} (hS : ∀ k c t, S k → 0 ≤ c → c < (W : Int) → next k c = some t → S t ∧ ∀ w, Λ k (c :: w) = Λ t w) (ha : ∀ k b, S k → acc k = some b → Λ k [] = b) (ho : ∀ k c w, ¬ (0 ≤ c ∧ c < (W : Int)) → Λ k (c :: w) = false)
  {start : K} (h0 : S start) {f : Nat} {r : List Bool × List (List Int)} (h : xy0 good acc next W f [start] [] [] = some r) :
  yp0 W r.1.length r.2 ∧ 0 < r.1.length ∧ r.1.length ≤ 1900000 ∧ lng W r.1 r.2 0 = Λ start := by
 obtain ⟨d, hG, hlen⟩ := zv3 (fun k c t a b c' e => (hS k c t a b c' e).1) f [start] [] [] r ⟨rfl, by simp, by simp, by intro k hk; simp at hk; exact hk ▸ h0, by simp, by simp⟩ h; (have hpos : 0 < r.1.length := by rw [hlen]; simp)
 have hT : yp0 W r.1.length r.2 := by
  refine ⟨hG.len, fun row hrow => ?_⟩; obtain ⟨i, hi, he⟩ := List.getElem_of_mem hrow; obtain ⟨hW, k, _, hj⟩ := hG.row i row (by rw [List.getElem?_eq_getElem hi, he]); refine ⟨hW, fun x hx => ?_⟩; obtain ⟨j, hj1, hj2⟩ := List.getElem_of_mem hx; obtain ⟨t, q, _, h2, h3⟩ := hj j (by omega); rw [List.getElem?_eq_getElem hj1, hj2] at h2; obtain rfl := Option.some.inj h2; have := (List.getElem?_eq_some_iff.1 h3).1; omega
 refine ⟨hT, hpos, by rw [hlen]; exact hG.few, ?_⟩
 have key : ∀ (w : List Int) (i : Nat) (k : K), ([start] ++ d)[i]? = some k → lng W r.1 r.2 (i : Int) w = Λ k w := by
  intro w
  induction w with
  | nil =>
   intro i k hk; have hi := (List.getElem?_eq_some_iff.1 hk).1; obtain ⟨k', h1, h2⟩ := hG.acc i r.1[i] (List.getElem?_eq_getElem (by omega)); rw [hk] at h1; obtain rfl := Option.some.inj h1; rw [ha k _ (hG.all k (List.mem_of_getElem? hk)) h2]; simp [lng, rdOf, List.getD_eq_getElem?_getD, List.getElem?_eq_getElem (show i < r.1.length by omega)]
  | cons c w ih =>
   intro i k hk; have hi := (List.getElem?_eq_some_iff.1 hk).1; by_cases hc : 0 ≤ c ∧ c < (W : Int)
   ·obtain ⟨hW, k', h1, h2⟩ := hG.row i (r.2[i]'(by rw [hG.len]; omega)) (List.getElem?_eq_getElem _); rw [hk] at h1; obtain rfl := Option.some.inj h1; obtain ⟨t, q, a, b, c'⟩ := h2 c.toNat (by omega); rw [show ((c.toNat : Nat) : Int) = c by omega] at a
    have hs : stp r.2 (i : Int) c = (q : Int) := by
     simp only [stp, rd, Int.toNat_natCast]; rw [List.getD_eq_getElem?_getD, List.getD_eq_getElem?_getD, List.getElem?_eq_getElem (show i < r.2.length by rw [hG.len]; omega)]; simp only [Option.getD_some]; rw [b]; rfl
    obtain ⟨_, hΛ⟩ := hS k c t (hG.all k (List.mem_of_getElem? hk)) hc.1 hc.2 a; simp only [lng, hc, decide_true, Bool.true_and]; rw [hs, ih q t c', hΛ]
   ·rw [ho k c w hc]; simp only [lng]; by_cases c0 : 0 ≤ c
    ·simp [show ¬ c < (W : Int) from fun h => hc ⟨c0, h⟩]
    ·simp [c0]
 funext w
 exact key w 0 start (by simp)
end
def lngR (W : Nat) (pads : List Int) (ac : List Bool) (ns : List (List Int)) : Int × Int → List Int → Bool
 | x, [] => decide (0 ≤ x.2) && rdOf false ac x.1
 | x, c :: w => decide (0 ≤ c) && (decide (c < (W : Int)) && (decide (0 ≤ x.2) && (decide (bits .andNot .i64 x.2 (rd pads c) = 0) && lngR W pads ac ns (stp ns x.1 c, rd pads c) w)))
theorem qq1 (W : Nat) (pads : List Int) (ac : List Bool) (ns : List (List Int)) (q : Int) (w : List Int) : lngR W pads ac ns (q, -1) w = false := by
 cases w <;> simp [lngR]
theorem qi1 {l : List Int} {p : Int → Prop} (h : ∀ x ∈ l, p x) {i : Int} (h0 : 0 ≤ i) (h1 : i < (l.length : Int)) : p (rd l i) := by
 (have : i.toNat < l.length := by omega); unfold rd; rw [List.getD_eq_getElem?_getD, List.getElem?_eq_getElem this]; exact h _ (List.getElem_mem this)
theorem xw3 {W n : Nat} {pads : List Int} {ac : List Bool} {ns : List (List Int)} (hT : yp0 W n ns) (hn : ac.length = n) (hp : pads.length = W) (hp8 : ∀ x ∈ pads, 0 ≤ x ∧ x < 8) (hn2 : n ≤ 100000) {start : Int} (s0 : 0 ≤ start) (s1 : start < (n : Int)) {f : Nat} (hf : 1900002 ≤ f) :
  ∃ r, xy0 qj0 (accT ac) (zf2 pads ns) W f [(start, 0)] [] [] = some r ∧ yp0 W r.1.length r.2 ∧ 0 < r.1.length ∧ r.1.length ≤ 1900000 ∧ lng W r.1 r.2 0 = lngR W pads ac ns (start, 0) := by
 have hS : ∀ k c, (k = ((0 : Int), (-1 : Int)) ∨ (0 ≤ k.1 ∧ k.1 < (n : Int) ∧ 0 ≤ k.2 ∧ k.2 < 8)) → 0 ≤ c → c < (W : Int) → ∃ t, zf2 pads ns k c = some t ∧ (t = ((0 : Int), (-1 : Int)) ∨ (0 ≤ t.1 ∧ t.1 < (n : Int) ∧ 0 ≤ t.2 ∧ t.2 < 8)) ∧ ∀ w, lngR W pads ac ns k (c :: w) = lngR W pads ac ns t w := by
  intro k c hk c0 c1
  rcases hk with rfl | ⟨k0, k1, k2, k3⟩
  ·exact ⟨(0, -1), by unfold zf2; rw [if_pos (by show (-1 : Int) < 0; omega)], .inl rfl, fun w => by rw [qq1, qq1]⟩
  ·have hpc := qi1 hp8 c0 (by omega); unfold zf2; rw [if_neg (by omega), qt0 c0 (by omega)]; simp only [Option.bind_some]; rw [show rdOf 0 pads c = rd pads c from rfl]; by_cases hb : bits .andNot .i64 k.2 (rd pads c) = 0
   ·rw [if_pos hb]; have hst := hT.stpd k0 k1 c0 c1; have hrow := hT.row k0 k1; rw [qt0 k0 (by rw [hT.1]; exact k1)]; simp only [Option.bind_some]; rw [show rdOf [] ns k.1 = ns.getD k.1.toNat [] from rfl, qt0 c0 (by rw [(hT.2 _ hrow).1]; exact c1)]; simp only [Option.bind_some]; refine ⟨_, rfl, .inr ⟨hst.1, hst.2, hpc.1, hpc.2⟩, fun w => ?_⟩; simp only [lngR, c0, c1, k2, hb, decide_true, Bool.true_and]; rfl
   ·rw [if_neg hb]; refine ⟨_, rfl, .inl rfl, fun w => ?_⟩; rw [qq1]; simp [lngR, hb]
 have hA : ∀ k : Int × Int, (k = ((0 : Int), (-1 : Int)) ∨ (0 ≤ k.1 ∧ k.1 < (n : Int) ∧ 0 ≤ k.2 ∧ k.2 < 8)) → ∃ b, accT ac k = some b ∧ lngR W pads ac ns k [] = b := by
  intro k hk
  rcases hk with rfl | ⟨k0, k1, k2, k3⟩
  ·exact ⟨false, by unfold accT; rw [if_neg (by show ¬ (0 : Int) ≤ -1; omega)], qq1 _ _ _ _ _ _⟩
  ·exact ⟨rdOf false ac k.1, by unfold accT; rw [if_pos k2, qt0 k0 (by omega)], by simp [lngR, k2]⟩
 let U : List (Int × Int) := ((0 : Int), (-1 : Int)) :: (List.range n).flatMap fun (a : Nat) => (List.range 8).map fun (b : Nat) => ((a : Int), (b : Int))
 have hUl : U.length = n * 8 + 1 := by
  simp only [U, List.length_cons, List.length_flatMap, List.length_map, List.length_range, List.map_const', List.sum_replicate_nat]
 have hU : ∀ k : Int × Int, k ∈ U ↔ (k = ((0 : Int), (-1 : Int)) ∨ (0 ≤ k.1 ∧ k.1 < (n : Int) ∧ 0 ≤ k.2 ∧ k.2 < 8)) := by
  intro k; simp only [U, List.mem_cons, List.mem_flatMap, List.mem_range, List.mem_map]; constructor
  ·rintro (h | ⟨a, ha, b, hb, rfl⟩)
   ·exact .inl h
   ·exact .inr ⟨by simp, by simp; omega, by simp, by simp; omega⟩
  ·rintro (h | ⟨h0, h1, h2, h3⟩)
   ·exact .inl h
   ·exact .inr ⟨k.1.toNat, by omega, k.2.toNat, by omega, Prod.ext (by simp; omega) (by simp; omega)⟩
 have hst : (start, (0 : Int)) ∈ U := (hU _).2 (.inr ⟨s0, s1, by simp, by simp⟩)
 have total : ∃ r, xy0 qj0 (accT ac) (zf2 pads ns) W f [(start, 0)] [] [] = some r := by
  refine ya1 (U := U) (by rw [hUl]; omega) (fun k c hk c0 c1 => ?_) (fun k hk => ?_) f _ [] [] (by simp) (by intro k hk; simp at hk; subst hk; exact hst) (by simp) (by rw [hUl]; simp; omega)
  ·obtain ⟨t, ht, hSt, _⟩ := hS k c ((hU k).1 hk) c0 c1; refine ⟨t, ht, ?_, (hU t).2 hSt⟩
   rcases hSt with rfl | ⟨t0, t1, t2, t3⟩
   ·decide
   ·simp only [qj0, zl1, Bool.and_eq_true, decide_eq_true_eq]; omega
  ·obtain ⟨b, hb, _⟩ := hA k ((hU k).1 hk); exact ⟨b, hb⟩
 obtain ⟨r, hr⟩ := total
 have ht := yk1 (S := fun k => k = ((0 : Int), (-1 : Int)) ∨ (0 ≤ k.1 ∧ k.1 < (n : Int) ∧ 0 ≤ k.2 ∧ k.2 < 8)) (Λ := lngR W pads ac ns)
  (fun k c t hk c0 c1 ht => by obtain ⟨t', ht', h1, h2⟩ := hS k c hk c0 c1; rw [ht] at ht'; obtain rfl := Option.some.inj ht'; exact ⟨h1, h2⟩)
  (fun k b hk hb => by obtain ⟨b', hb', h⟩ := hA k hk; rw [hb] at hb'; obtain rfl := Option.some.inj hb'; exact h)
  (fun k c w hc => by
   simp only [lngR]; by_cases c0 : 0 ≤ c
   ·simp [show ¬ c < (W : Int) from fun h => hc ⟨c0, h⟩]
   ·simp [c0])
  (.inr ⟨s0, s1, by simp, by simp⟩) hr
 exact ⟨r, hr, ht⟩
/-- 'tidy' makes the tidy table of the right language. -/
theorem zv4 {W n : Nat} {pads : List Int} {ac : List Bool} {ns : List (List Int)} (hT : yp0 W n ns) (hn : ac.length = n) (hp : pads.length = W) (hp8 : ∀ x ∈ pads, 0 ≤ x ∧ x < 8) (hn2 : n ≤ 100000) (hW : W ≤ 1000) {start : Int} (s0 : 0 ≤ start) (s1 : start < (n : Int)) {f : Nat} (hf : 1900002 ≤ f) :
  ∃ p r, xy0 qj0 (accT ac) (zf2 pads ns) W f [(start, 0)] [] [] = some p ∧ (p.1.length ≤ 1900000 ∧ p.2.length = p.1.length ∧ ∀ row ∈ p.2, row.length ≤ 1000) ∧ yi1 W f 0 p.1 p.2 = some r ∧ kt1 W f (lngR W pads ac ns (start, 0)) = some r := by
 obtain ⟨p, hp1, hT2, hpos, hle, hl⟩ := xw3 hT hn hp hp8 hn2 s0 s1 hf; obtain ⟨r, hr, hd⟩ := qf3 hT2 rfl hle (start := 0) (by omega) (by omega) (f := f) (by omega); exact ⟨p, r, hp1, ⟨hle, hT2.1, fun row hrow => by rw [(hT2.2 row hrow).1]; exact hW⟩, hr, by rw [← hl]; exact hd⟩
end Go.Proofs.YtocfcpicleomcaaDoor.X
