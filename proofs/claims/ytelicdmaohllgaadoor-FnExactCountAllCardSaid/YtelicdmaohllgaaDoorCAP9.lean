import Derived.Test.YtelicdmaohllgaaDoorCAP8
import Derived.Test.YtelicdmaohllgaaDoorCAP3
import Derived.Maps.RangeWalk
import Derived.Maps.Ext
import Derived.Maps.OwnOps
import Derived.Carry
import Derived.Outline
import Derived.Test.YtelicdmaohllgaaDoorCAP2
import Derived.Test.YtelicdmaohllgaaDoorCAP7
import Derived.Test.YtelicdmaohllgaaDoorRows
import Derived.Test.YtelicdmaohllgaaDoorCAP5
import Derived.Lib.LaidTab
import Derived.LaidLaws
import Derived.ChangeVars
import Derived.JoinedOf
import Derived.JoinedAt
import Derived.Deep.Matrix
import Derived.Deep.Grids
import Derived.Lib.SmallJoins
import Derived.ProofKit
import Derived.OpenShut
import Derived.Test.YtelicdmaohllgaaDoorCAP6
import Derived.Test.YtelicdmaohllgaaDoorCAP4
namespace Go.Proofs.YtelicdmaohllgaaDoor.X
set_option maxHeartbeats 16000000
set_option maxRecDepth 100000
open Go.RowKit Go.Proofs.YtelicdmaohllgaaDoorW.PrintWords Go.Proofs.YtelicdmaohllgaaDoorW.PrintLast Go.Proofs.YtelicdmaohllgaaDoorW.PrintMore
set_option linter.unusedVariables false
set_option linter.unusedSimpArgs false
theorem min2_mn (k k' : IntKind) (x y : Int) : Builtin.min2 (.int k x) (.int k' y) = pure (.int k (mn x y)) := by rw [min2_int]; rfl
attribute [local go_sem] min2_mn min_two
/-- A map that is ranged over. -/
def rangeP (P : Program) (kt : TypeId) (R : Value → Option (DataW Unit × List MemPlace)) (b r n : Nat) (D : DataW Unit) (left : Lit → Bool) (cnt : Nat) : Part := fun ok W => W.ranges P kt R b r n D left cnt ∧ ok b ∧ ok r
theorem rangeP_ok (P : Program) (kt : TypeId) (R : Value → Option (DataW Unit × List MemPlace)) (b r n : Nat) (D : DataW Unit) (left : Lit → Bool) (cnt : Nat) : POk (rangeP P kt R b r n D left cnt) :=
 ⟨fun h hk => ⟨h.1, hk _ h.2.1, hk _ h.2.2⟩, fun h hm => by
  obtain ⟨hw, ho, hr⟩ := h; have hlb := hw.owns.lt; have hlr := hw.lt; obtain ⟨es, clock, since, seen, c0, hb, F, hs, hD, hrr, rest⟩ := hw
  exact ⟨⟨es, clock, since, seen, c0, (hm b ho hlb).trans hb, F, hs, hD, (hm r hr hlr).trans hrr, rest⟩, ⟨ho, hlb⟩, ⟨hr, hlr⟩⟩⟩
theorem Sep.retags {own : Nat → Nat} {W : World} (f : Nat → Nat) : ∀ {ps : List (Nat × Part)}, Sep own W ps → Sep (fun k => f (own k)) W (ps.map fun p => (f p.1, p.2)) := by
 intro ps
 induction ps with
 | nil => intro _; trivial
 | cons p ps ih => intro h; exact ⟨⟨h.1.1, h.1.1.mono h.1.2 (fun k hk => by show f (own k) = f p.1; rw [hk])⟩, ih h.2⟩
theorem below_made {w4 w5 : World} (hg : (w4.alloc (.map #[] 0)).grownBy w5 (some w4.heap.size)) : Below w4.heap.size w4 w5 :=
 Below.trans ((Below.refl _ w4).alloc (Nat.le_refl _) _) ⟨hg.os, hg.tape, hg.output, hg.size, fun k hk => hg.block k (by simp; omega) (by simp; omega)⟩
theorem zero_i64 (w : World) : (zeroValue 2).run Tryd.prog w = .ok (.int .i64 0) w := by kernel_rfl
theorem i64_nat {x : Nat} (h : x ≤ 9000000000000000000) : (Lit.int .i64 (x : Int)).wf = true := WalkArith.wf_i64 (by omega)
theorem min_val {a b : Int} {z x : Nat} (ha : a = (z : Int)) (hb : b = (x : Int)) (hz : z ≤ 1000000001) (hx : x ≤ 1000000001) : mn (wrap64 (a + b)) 1000000001 = ((min (z + x) 1000000001 : Nat) : Int) := by
 subst ha; subst hb; rw [show wrap64 ((z : Int) + (x : Int)) = (z : Int) + (x : Int) by unfold wrap64; omega]; unfold mn
 split <;> omega
/-- The map's part is ranged over from now on. -/
theorem Sep.range {own : Nat → Nat} {W W1 : World} {ps : List (Nat × Part)} {P : Program} {kt : TypeId} {R : Value → Option (DataW Unit × List MemPlace)} {b n t : Nat} {D : DataW Unit} (h : Sep own W ps) (i : Nat) (hi : ps[i]? = some (t, mapP P kt R b n D)) {left : Lit → Bool} {cnt : Nat}
  (hr : W1.ranges P kt R b W.heap.size n D left cnt) (hg : W.grownBy W1 none) (hd : ((ps.eraseIdx i).map Prod.fst).contains t = false) : Sep (retag own W.heap.size t) W1 (ps.set i (t, rangeP P kt R b W.heap.size n D left cnt)) :=
 h.put i hi (same_grown hg (fun k hk => by cases hk)) (rangeP_ok _ _ _ _ _ _ _ _ _) ⟨hr, (retag_lt (h.get hi).1.lt).trans (h.get hi).2, retag_ge (Nat.le_refl _)⟩ hd
/-- A step of the iterator. -/
theorem Sep.stepped {own : Nat → Nat} {W W1 : World} {ps : List (Nat × Part)} {P : Program} {kt : TypeId} {R : Value → Option (DataW Unit × List MemPlace)} {b r n t : Nat} {D : DataW Unit} {left left' : Lit → Bool} {cnt cnt' : Nat} (h : Sep own W ps) (i : Nat) (hi : ps[i]? = some (t, rangeP P kt R b r n D left cnt))
  (hr : W1.ranges P kt R b r n D left' cnt') (hg : W.grownBy W1 (some r)) (hd : ((ps.eraseIdx i).map Prod.fst).contains t = false) : Sep (retag own W.heap.size t) W1 (ps.set i (t, rangeP P kt R b r n D left' cnt')) := by
 obtain ⟨h1, h2, h3⟩ := h.get hi; exact h.put i hi (same_grown hg (fun k hk => by cases hk; exact h3)) (rangeP_ok _ _ _ _ _ _ _ _ _) ⟨hr, (retag_lt h1.owns.lt).trans h2, (retag_lt h1.lt).trans h3⟩ hd
/-- An entry is laid into a map. -/
theorem Sep.mapped {own : Nat → Nat} {W W1 : World} {ps : List (Nat × Part)} {P : Program} {kt : TypeId} {R : Value → Option (DataW Unit × List MemPlace)} {b n n' t : Nat} {D D' : DataW Unit} (h : Sep own W ps) (i : Nat) (hi : ps[i]? = some (t, mapP P kt R b n D))
  (hm : W1.ownsMap P kt R b n' D') (hg : W.grownBy W1 (some b)) (hd : ((ps.eraseIdx i).map Prod.fst).contains t = false) : Sep (retag own W.heap.size t) W1 (ps.set i (t, mapP P kt R b n' D')) := by
 obtain ⟨h1, h2⟩ := h.get hi; exact h.put i hi (same_grown hg (fun k hk => by cases hk; exact h2)) (mapP_ok _ _ _ _ _ _) ⟨hm, (retag_lt h1.lt).trans h2⟩ hd
theorem countAll_calls {kf W s : Nat} (w : World) (tapes : Int) (A2 : Option Addr) (c2 : Nat) (ac : List Bool) (A3 : Option Addr) (c3 : Nat) (ns : List (List Int)) (hr2 : Kd.C Kd.bool w A2 ac.length ac) (hc2 : ac.length ≤ c2) (hr3 : Kd.C (Kd.slice 3 (Kd.int .i64)) w A3 ns.length ns) (hc3 : ns.length ≤ c3)
  {F : List Int} (hF : impl_machine_far.f kf tapes (s : Int) ac ns = some F) (hFl : F.length = ac.length) (hT : TableOK W ac.length ns) (hN : ac.length ≤ 2000000) (hW : W ≤ 1000) (hs : s < ac.length) :
  Calls Tryd.prog 89 #[.agg #[.int .i64 tapes, .int .i64 (s : Int), .slice A2 ac.length c2, .slice A3 ns.length c3]] w fun e w' => e = .returned (.tuple #[.int .i64 (countR ac.length W ac ns (deadF F) 1000000001 s).1, .bool (countR ac.length W ac ns (deadF F) 1000000001 s).2]) ∧ Below w.heap.size w w' := by
 have HR2 := am hr2; have HR3 := am hr3; have HF := am hF; have HT := am hT; have HC := am (And.intro hFl (And.intro hN (And.intro hW hs))); obtain ⟨adA, eaA, -⟩ := Kd.at_bool hr2 (0 : Int) (by omega) (by omega); subst eaA; obtain ⟨ad1, _, _, ea1, -⟩ := at_rows hr3 (0 : Int) (by omega) (by have := hT.1; omega); subst ea1; clear hr2 hr3 hF hT hFl hN hW hs; have HB0 := am (below_alloc (Below.refl w.heap.size w) (.cells #[.int .i64 tapes, .int .i64 (s : Int), .slice (some adA) ac.length c2, .slice (some ad1) ns.length c3] 78)); have HSp0 := am (show Sep (fun _ => 1) (w.alloc (.cells #[.int .i64 tapes, .int .i64 (s : Int), .slice (some adA) ac.length c2, .slice (some ad1) ns.length c3] 78)) [(1, blkP w.heap.size (.cells #[.int .i64 tapes, .int .i64 (s : Int), .slice (some adA) ac.length c2, .slice (some ad1) ns.length c3] 78 (0, 0)))] from ⟨⟨blkP_ok _ _, blk_new w _, rfl⟩, trivial⟩); have hmm := @run_makeMap Tryd.prog; go_enter Tryd.func89, Tryd.ntmps89
 go_upto_region 1 with (fail)
 have q0 := blk_cell (HSp0.out.get (i := 0) rfl).1; generalize World.alloc _ _ = w1 at *; have x0 : w1.cell? ⟨w.heap.size, 0, none⟩ = some (.int .i64 tapes) := (q0 0).trans rfl; have x1 : w1.cell? ⟨w.heap.size, 1, none⟩ = some (.int .i64 (s : Int)) := (q0 1).trans rfl; have x2 : w1.cell? ⟨w.heap.size, 2, none⟩ = some (.slice (some adA) ac.length c2) := (q0 2).trans rfl; have x3 : w1.cell? ⟨w.heap.size, 3, none⟩ = some (.slice (some ad1) ns.length c3) := (q0 3).trans rfl; clear q0
 go_wp2_with (fail)
 (with_reducible refine (impl_machine_far.calls kf tapes (s : Int) (some adA) c2 ac (some ad1) c3 ns F w1 (Kd.C_below HR2.out HB0.out) hc2 (Kd.C_below HR3.out HB0.out) hc3 HF.out).mono ?_); rintro e w4 ⟨vF, rfl, hRF, hb⟩; obtain ⟨gF, cF, hvF, _⟩ := Kd.R_form hRF (by have := HC.out; omega); subst hvF; have HB4 := am (below_then HB0.out HB0.out.size hb); have HSp4 := am (HSp0.out.new (t := 2) hb (rowP_ok (Kd.int .i64) 3 w.heap.size (.slice (some ⟨gF, 0, none⟩) F.length cF) F) (row_new hRF HB0.out.size) rfl); simp only [List.cons_append, List.nil_append] at HSp4; clear hRF hb HB0 HSp0 x0 x1 x2 x3; have hown0 : (w4.alloc (.map #[] 0)).ownsMap Tryd.prog 3 (plainElem Tryd.prog 2) w4.heap.size 0 (.map [] : DataW Unit) := made_at _ rfl; obtain ⟨w5, hrun, hown1, hg1⟩ := hown0.update (Maps.int_keyed Tryd.underlying3) Tryd.underlying144 (by unfold maxLen; omega) (key := .int .i64 (s : Int)) (val := .int .i64 1) (Maps.keyOf_int_mk Tryd.underlying3 (i64_nat (by have := HC.out; omega))) (plainElem_int Tryd.underlying2 (by decide)); have y1 : (w4.alloc (.map #[] 0)).cell? ⟨w.heap.size, 1, none⟩ = some (.int .i64 (s : Int)) := (blk_cell (blk_alloc (HSp4.out.get (i := 0) rfl).1 _) 1).trans rfl; have HSp5 := am (HSp4.out.new (t := 3) (below_made hg1) (mapP_ok Tryd.prog 3 (plainElem Tryd.prog 2) w4.heap.size 1 (DataW.put (.map []) (litN s) (litV 1))) ⟨hown1, Nat.le_refl _⟩ rfl); simp only [List.cons_append, List.nil_append] at HSp5; have HB5 := am (below_then HB4.out HB4.out.size (below_made hg1)); have HM5 := am (MapIs.one (top := 1000000001) HC.out.2.2.2 (by omega)); clear hown0 hown1 hg1 HB4 HSp4; go_wp2; clear hrun y1; have HS5 : Aside0 (∃ own, Sep own w5 [(1, blkP w.heap.size (.cells #[.int .i64 tapes, .int .i64 (s : Int), .slice (some adA) ac.length c2, .slice (some ad1) ns.length c3] 78 (0, 0))), (2, rowP (Kd.int .i64) 3 w.heap.size (.slice (some ⟨gF, 0, none⟩) F.length cF) F), (3, mapP Tryd.prog 3 (plainElem Tryd.prog 2) w4.heap.size 1 (DataW.put (.map []) (litN s) (litV 1)))]) := ⟨_, HSp5.out⟩; clear HSp5
 go_loopg [5, 6, 7] (ac.length + 1) (fun kq v5 v6 v7 w' => ∃ (own : Nat → Nat) (n b nb : Nat) (M : DataW Unit), v7 = .int .i64 (n : Int) ∧ v5 = .int .i64 ((min (sumN n fun m => gotA ac.length ac (deadF F) (fwdA ac.length W ns (deadF F) s m)) 1000000001 : Nat) : Int) ∧ v6 = .map (some b) ∧ Aside0 (n + kq = ac.length + 1) ∧ Aside0 (Below w.heap.size w w') ∧ Aside0 (MapIs ac.length 1000000001 M (fwdA ac.length W ns (deadF F) s n)) ∧ Aside0 (Sep own w' [(1, blkP w.heap.size (.cells #[.int .i64 tapes, .int .i64 (s : Int), .slice (some adA) ac.length c2, .slice (some ad1) ns.length c3] 78 (0, 0))), (2, rowP (Kd.int .i64) 3 w.heap.size (.slice (some ⟨gF, 0, none⟩) F.length cF) F), (3, mapP Tryd.prog 3 (plainElem Tryd.prog 2) b nb M)]))
 case atStart =>
  obtain ⟨own, h5⟩ := HS5.out; exact ⟨own, 0, w4.heap.size, 1, _, rfl, rfl, rfl, ⟨by omega⟩, HB5, HM5, ⟨h5⟩⟩
 case round =>
  clear HB5 HM5 HS5; obtain ⟨own, n, b, nb, M, rfl, rfl, rfl, HK, HB, HM, HSp⟩ := hrel; have q0 := blk_cell (HSp.out.get (i := 0) rfl).1; have x2 : wr.cell? ⟨w.heap.size, 2, none⟩ = some (.slice (some adA) ac.length c2) := (q0 2).trans rfl; clear q0; have hown : wr.ownsMap Tryd.prog 3 (plainElem Tryd.prog 2) b nb M := (HSp.out.get (i := 2) rfl).1; have hsz : Maps.size M ≤ ac.length := HM.out.size (hown.canon (Maps.int_keyed Tryd.underlying3)); have HOw := am hown; have HSz := am hsz; clear hown hsz; have hmm := @run_makeMap Tryd.prog
  cases gk with
  | zero =>
   (have hn : n = ac.length + 1 := by have := HK.out; omega); have c1 : decide ((n : Int) ≤ (ac.length : Int)) = false := decide_eq_false (by omega); have c2_ : decide (n ≤ ac.length) = false := decide_eq_false (by omega); have HNn := am hn; clear HK hn
   go_wp2_with (first | (at_range; refine wpList_range_own _ rfl _ 144 rfl 3 2 (Maps.int_keyed Tryd.underlying3) Tryd.underlying144 _ b nb M rfl HOw.out ?_; intro w0 hrg0 hg0 hs0; have HG0 := am hg0; have HSp0 := am (HSp.out.range 2 rfl hrg0 hg0 rfl); clear hrg0 hg0 hs0) | go_in)
   go_frame
   have HBa := am (below_then HB.out HB.out.size (below_of_grown HG0.out)); have HRB := am HB.out.size; generalize wr.heap.size = r at *; generalize retag own r 3 = own0 at *; clear HSp HOw HG0 HB x2 hmm HSz; have HL0 : Aside0 (∀ q, q < ac.length → Maps.has M (litN q) = false → 0 < fwdA ac.length W ns (deadF F) s n q → deadF F q = true) := ⟨fun q hq hl hv => by rw [(HM.out.2.2 q hq).1, decide_eq_false_iff_not] at hl; exact absurd hv hl⟩
   go_loopw [13] (fun _ wr => ∃ (own : Nat → Nat) (left : Lit → Bool) (cnt : Nat), Aside0 (Below w.heap.size w wr) ∧ Aside0 (∀ q, q < ac.length → left (litN q) = false → 0 < fwdA ac.length W ns (deadF F) s n q → deadF F q = true) ∧ Aside0 (Sep own wr [(1, blkP w.heap.size (.cells #[.int .i64 tapes, .int .i64 (s : Int), .slice (some adA) ac.length c2, .slice (some ad1) ns.length c3] 78 (0, 0))), (2, rowP (Kd.int .i64) 3 w.heap.size (.slice (some ⟨gF, 0, none⟩) F.length cF) F), (3, rangeP Tryd.prog 3 (plainElem Tryd.prog 2) b r nb M left cnt)])) (fun _ wr => wr.rangeLeft b r)
   case atStart => exact ⟨_, _, _, HBa, HL0, HSp0⟩
   case round =>
    clear HBa HL0 HSp0; obtain ⟨own, left, cnt, HB, HL, HSp⟩ := hrel; have hrg := (HSp.out.get (i := 2) rfl).1
    go_wp2_with (first | (at_next; refine wpList_next_ranges_ii _ rfl _ rfl 3 2 .i64 .i64 (Maps.int_keyed Tryd.underlying3) Tryd.underlying3 Tryd.underlying2 b r nb _ _ _ rfl hrg ?_ ?_) | go_in)
    ·intro hc0 hl0
     have hcr : countR ac.length W ac ns (deadF F) 1000000001 s = (((min (sumN n fun m => gotA ac.length ac (deadF F) (fwdA ac.length W ns (deadF F) s m)) 1000000001 : Nat) : Int), true) := by
      unfold countR; rw [← HNn.out]; rw [if_neg]; rw [List.any_eq_true]; rintro ⟨q, hq, h2⟩; simp only [Bool.and_eq_true, Bool.not_eq_true', decide_eq_true_eq] at h2; have := HL.out q (List.mem_range.1 hq) (hl0 _) h2.2; rw [h2.1] at this; cases this
     clear hrg hl0; go_wp2; go_ret2; rw [hcr]; exact ⟨rfl, HB.out⟩
    ·intro x c w1 cnt1 hwx hwc hlx hat hrg1 hlt hg1 hs1 hen; obtain ⟨q, hq, hxq⟩ := HM.out.2.1 _ (Maps.has_true_of_atKey hat); (have hxq2 : x = (q : Int) := by injection hxq); subst hxq2; have hhas := Maps.has_true_of_atKey hat; rw [show (Lit.int .i64 (q : Int)) = litN q from rfl, (HM.out.2.2 q hq).1, decide_eq_true_eq] at hhas; have HSp1 := am (HSp.out.stepped 2 rfl hrg1 hg1 rfl); simp only [List.set_cons_succ, List.set_cons_zero] at HSp1; have HB1 := am (HB.out.grown hg1 HB.out.size (fun k hk => by cases hk; exact HRB.out)); obtain ⟨gA, cA, hvA, hcA, hfA⟩ := HSp1.out.int 1 rfl (q : Int) (by omega) (by have := HC.out.1; omega); simp only [Value.slice.injEq, Option.some.injEq, Addr.mk.injEq, and_true, true_and, Int.toNat_natCast] at hvA hcA; obtain ⟨hv1, hv3⟩ := hvA; subst hv1; subst hv3; have p0 : (q < F.length) = True := eq_true (by have := HC.out.1; omega); by_cases hd : deadF F q = true
     ·have d1 : decide (rd F (q : Int) ≥ 0) = false := decide_eq_false (by simp only [deadF, decide_eq_true_eq] at hd; omega); have d2 : decide (0 ≤ rd F (q : Int)) = false := decide_eq_false (by simp only [deadF, decide_eq_true_eq] at hd; omega)
      have HL1 : Aside0 (∀ q', q' < ac.length → (left (litN q') && !(litN q').sameKey (litN q)) = false → 0 < fwdA ac.length W ns (deadF F) s n q' → deadF F q' = true) := ⟨fun q' hq' hl hv => by
       by_cases e : q' = q
       ·subst e; exact hd
       ·rw [Maps.sameKey_ne (fun h => e (litN_inj h))] at hl
        exact HL.out q' hq' (by simpa using hl) hv⟩
      clear hfA hat hhas hlx hwx hwc hd; go_wp2
      go_roundw
      case rel => exact ⟨_, _, cnt1, HB1, HL1, HSp1⟩
      case measure => rw [hrg1.left_eq, hrg.left_eq]; exact hlt
     ·have d1 : decide (rd F (q : Int) ≥ 0) = true := decide_eq_true (by simp only [deadF, decide_eq_true_eq] at hd; omega); have d2 : decide (0 ≤ rd F (q : Int)) = true := decide_eq_true (by simp only [deadF, decide_eq_true_eq] at hd; omega)
      have hcr : countR ac.length W ac ns (deadF F) 1000000001 s = (0, false) := by
       unfold countR; rw [← HNn.out]; rw [if_pos]; rw [List.any_eq_true]; exact ⟨q, List.mem_range.2 hq, by simp [hd, hhas]⟩
      clear hfA hat hhas hlx hwx hwc hd; go_wp2; go_ret2; rw [hcr]; exact ⟨rfl, HB1.out⟩
  | succ k1 =>
   (have hn : n ≤ ac.length := by have := HK.out; omega); (have hnl : n ≤ 2000000 := by have := HC.out.2.1; omega); have c1 : decide ((n : Int) ≤ (ac.length : Int)) = true := decide_eq_true (by omega); have c2_ : decide (n ≤ ac.length) = true := decide_eq_true hn; have HSp8 := am (HSp.out.new (t := 4) ((Below.refl wr.heap.size wr).alloc (Nat.le_refl _) (.map #[] 0)) (mapP_ok Tryd.prog 3 (plainElem Tryd.prog 2) wr.heap.size 0 (.map [])) ⟨World.ownsMap_made _ _ _ _, Nat.le_refl _⟩ rfl); simp only [List.cons_append, List.nil_append] at HSp8; (have e1 : (wr.alloc (.map #[] 0)).heap.size = wr.heap.size + 1 := by simp); clear hn
   go_wp2_with (first | (at_range; refine wpList_range_own _ rfl _ 144 rfl 3 2 (Maps.int_keyed Tryd.underlying3) Tryd.underlying144 _ b nb M rfl (HOw.out.alloc _) ?_; intro w0 hrg0 hg0 hs0; have HG0 := am hg0; have HSp0 := am (HSp8.out.range 2 rfl hrg0 hg0 rfl); clear hrg0 hg0 hs0) | go_in)
   go_frame
   have HBa := am (below_then HB.out HB.out.size (Below.trans ((Below.refl wr.heap.size wr).alloc (Nat.le_refl _) (.map #[] 0)) (Below.mono (below_of_grown HG0.out) (by rw [e1]; omega)))); simp only [List.set_cons_succ, List.set_cons_zero] at HSp0; have HRB := am (Nat.le_succ_of_le HB.out.size); have HRB8 := am HB.out.size
   rw [e1] at HSp0 ⊢
   generalize retag _ (wr.heap.size + 1) 3 = own0 at *; rw [Nat.succ_eq_add_one] at HRB; generalize wr.heap.size + 1 = r at *; generalize wr.heap.size = b8 at *; clear HSp HSp8 HOw HG0 HB x2 hmm e1 own wr
   go_loopw [5] (fun v5 wr => ∃ (own : Nat → Nat) (left : Lit → Bool) (cnt nb8 : Nat) (M8 : DataW Unit), v5 = .int .i64 ((min ((sumN n fun m => gotA ac.length ac (deadF F) (fwdA ac.length W ns (deadF F) s m)) + sumN ac.length (partA left (takeA ac (deadF F) (fwdA ac.length W ns (deadF F) s n)))) 1000000001 : Nat) : Int) ∧ Aside0 (Below w.heap.size w wr) ∧ Aside0 (MapIs ac.length 1000000001 M8 (fun t => sumN ac.length (partA left (giveA W ns (deadF F) (fwdA ac.length W ns (deadF F) s n) t)))) ∧ Aside0 (nb8 + cnt * 1000 ≤ 2000000000) ∧ Aside0 (Sep own wr [(1, blkP w.heap.size (.cells #[.int .i64 tapes, .int .i64 (s : Int), .slice (some adA) ac.length c2, .slice (some ad1) ns.length c3] 78 (0, 0))), (2, rowP (Kd.int .i64) 3 w.heap.size (.slice (some ⟨gF, 0, none⟩) F.length cF) F), (3, rangeP Tryd.prog 3 (plainElem Tryd.prog 2) b r nb M left cnt), (4, mapP Tryd.prog 3 (plainElem Tryd.prog 2) b8 nb8 M8)])) (fun _ wr => wr.rangeLeft b r)
   case atStart => exact ⟨_, _, _, 0, _, by rw [part_start HM.out (fun q hq hv => take_zero hv)]; rfl, HBa, ⟨mapIs_empty (fun q hq => part_start HM.out (fun q' hq' hv => give_zero hv))⟩, ⟨by have := HSz.out; have := HC.out.2.1; omega⟩, HSp0⟩
   case round =>
    clear HBa HSp0 HSz; obtain ⟨own, left, cnt, nb8, M8, rfl, HB, HM8, HNB, HSp⟩ := hrel; have hrg := (HSp.out.get (i := 2) rfl).1
    go_wp2_with (first | (at_next; refine wpList_next_ranges_ii _ rfl _ rfl 3 2 .i64 .i64 (Maps.int_keyed Tryd.underlying3) Tryd.underlying3 Tryd.underlying2 b r nb _ _ _ rfl hrg ?_ ?_) | go_in)
    ·intro hc0 hl0; have HSe := am ((HSp.out.drop 2).retags (fun t => if t = 4 then 3 else t)); simp only [List.eraseIdx_cons_succ, List.eraseIdx_cons_zero, List.map_cons, List.map_nil] at HSe; have HMe : Aside0 (MapIs ac.length 1000000001 M8 (fwdA ac.length W ns (deadF F) s (n + 1))) := ⟨HM8.out.congr (fun q _ => (part_end hl0).symm)⟩; (have hce : ((sumN n fun m => gotA ac.length ac (deadF F) (fwdA ac.length W ns (deadF F) s m)) + sumN ac.length (partA left (takeA ac (deadF F) (fwdA ac.length W ns (deadF F) s n)))) = sumN (n + 1) fun m => gotA ac.length ac (deadF F) (fwdA ac.length W ns (deadF F) s m) := by rw [part_end hl0, sumN_succ]; rfl); clear hrg hl0; rw [hce]; clear hce; go_wp2; go_roundg k1
     case measure => omega
     case rel => exact ⟨_, n + 1, b8, nb8, M8, by go_num, rfl, rfl, ⟨by have := HK.out; omega⟩, HB, HMe, HSe⟩
    ·intro x c w1 cnt1 hwx hwc hlx hat hrg1 hlt hg1 hs1 hen; obtain ⟨q, hq, hxq⟩ := HM.out.2.1 _ (Maps.has_true_of_atKey hat); (have hxq2 : x = (q : Int) := by injection hxq); subst hxq2; have hhas := Maps.has_true_of_atKey hat; rw [show (Lit.int .i64 (q : Int)) = litN q from rfl, (HM.out.2.2 q hq).1, decide_eq_true_eq] at hhas; have hcv := hat (litV 0); rw [show (Lit.int .i64 (q : Int)) = litN q from rfl, (HM.out.2.2 q hq).2] at hcv; (have hcv2 : ((min (fwdA ac.length W ns (deadF F) s n q) 1000000001 : Nat) : Int) = c := by unfold litV at hcv; simpa using hcv); have HCV := am hcv2.symm; have HQ := am (And.intro hq hhas); have HLQ := am (show left (litN q) = true from hlx); have HLt := am hlt; have HRG := am hrg; have HSp1 := am (HSp.out.stepped 2 rfl hrg1 hg1 rfl); simp only [List.set_cons_succ, List.set_cons_zero] at HSp1; have HB1 := am (HB.out.grown hg1 HB.out.size (fun k hk => by cases hk; exact HRB.out)); obtain ⟨gA, cA, hvA, hcA, hfA⟩ := HSp1.out.int 1 rfl (q : Int) (by omega) (by have := HC.out.1; omega); simp only [Value.slice.injEq, Option.some.injEq, Addr.mk.injEq, and_true, true_and, Int.toNat_natCast] at hvA hcA; obtain ⟨hv1, hv3⟩ := hvA; subst hv1; subst hv3; have p0 : (q < F.length) = True := eq_true (by have := HC.out.1; omega); clear hfA hat hhas hlx hwx hwc hq hcv hcv2 hxq HSp HB hrg1 hg1 hs1 hlt hrg; generalize retag own wr.heap.size 3 = own1 at *; by_cases hd : deadF F q = true
     ·have d1 : decide (rd F (q : Int) < 0) = true := decide_eq_true (by simp only [deadF, decide_eq_true_eq] at hd; omega); have HMd : Aside0 (MapIs ac.length 1000000001 M8 (fun t => sumN ac.length (partA (fun z => left z && !z.sameKey (litN q)) (giveA W ns (deadF F) (fwdA ac.length W ns (deadF F) s n) t)))) := ⟨HM8.out.congr (fun t ht => (dead_end HQ.out.1 HLQ.out hd).symm)⟩
      have hce : sumN ac.length (partA left (takeA ac (deadF F) (fwdA ac.length W ns (deadF F) s n))) = sumN ac.length (partA (fun z => left z && !z.sameKey (litN q)) (takeA ac (deadF F) (fwdA ac.length W ns (deadF F) s n))) := by
       rw [part_step HQ.out.1 HLQ.out, show takeA ac (deadF F) (fwdA ac.length W ns (deadF F) s n) q = 0 by unfold takeA; rw [if_pos hd]]; rfl
      rw [hce]; clear hce hd; go_wp2
      go_roundw
      case rel => exact ⟨_, _, cnt1, nb8, M8, rfl, HB1, HMd, ⟨by have := HNB.out; have := HLt.out; omega⟩, HSp1⟩
      case measure => rw [(HSp1.out.get (i := 2) rfl).1.left_eq, HRG.out.left_eq]; exact HLt.out
     ·(have hd0 : deadF F q = false := by simpa using hd); have d1 : decide (rd F (q : Int) < 0) = false := decide_eq_false (by simp only [deadF, decide_eq_true_eq] at hd; omega); have y0 := blk_cell (HSp1.out.get (i := 0) rfl).1; have x2 : w1.cell? ⟨w.heap.size, 2, none⟩ = some (.slice (some adA) ac.length c2) := (y0 2).trans rfl; have x3 : w1.cell? ⟨w.heap.size, 3, none⟩ = some (.slice (some ad1) ns.length c3) := (y0 3).trans rfl; obtain ⟨adA', eaA, hxA⟩ := Kd.at_bool (Kd.C_below HR2.out HB1.out) (q : Int) (by omega) (by have := HQ.out.1; omega); obtain rfl := Option.some.inj eaA; obtain ⟨ad1', Ar, cr, ea1, hx1, hlr, hCr⟩ := at_rows HR3.out (q : Int) (by omega) (by have := HQ.out.1; have := HT.out.1; omega); obtain rfl := Option.some.inj ea1; have hrow : rdR ns (q : Int) ∈ ns := HT.out.row (q := (q : Int)) (by omega) (by have := HQ.out.1; omega); have hrl : (rdR ns (q : Int)).length = W := (HT.out.2 _ hrow).1; have hst : ∀ c : Nat, rd (rdR ns (q : Int)) (c : Int) = stp ns (q : Int) (c : Int) := fun c => rfl; rw [hrl] at hx1 hlr hCr; generalize rdR ns (q : Int) = row at *; simp only [Int.toNat_natCast] at hx1 hxA; have HCr := am hCr; have HST := am hst; have hx1' := pw_cell_below HB1.out hx1; have p1 : (q < ac.length) = True := eq_true HQ.out.1; have p2 : (q < ns.length) = True := eq_true (by have := HQ.out.1; have := HT.out.1; omega); generalize hgc : ((min ((sumN n fun m => gotA ac.length ac (deadF F) (fwdA ac.length W ns (deadF F) s m)) + sumN ac.length (partA left (takeA ac (deadF F) (fwdA ac.length W ns (deadF F) s n)))) 1000000001 : Nat) : Int) = cold; have HGC := am hgc; clear hx1 hlr hCr hrow hrl hst hd y0 hgc
      have hb2 : rdOf false ac (q : Int) = true ∨ rdOf false ac (q : Int) = false := by cases rdOf false ac (q : Int) <;> simp
      rcases hb2 with ha | ha
      all_goals
       rw [ha] at hxA
       have hnew : (if rdOf false ac (q : Int) = true then mn (wrap64 (cold + c)) 1000000001 else cold) = ((min ((sumN n fun m => gotA ac.length ac (deadF F) (fwdA ac.length W ns (deadF F) s m)) + sumN ac.length (partA (fun z => left z && !z.sameKey (litN q)) (takeA ac (deadF F) (fwdA ac.length W ns (deadF F) s n)))) 1000000001 : Nat) : Int) := by
        rw [part_step HQ.out.1 HLQ.out, ← Nat.add_assoc]; (have htk : takeA ac (deadF F) (fwdA ac.length W ns (deadF F) s n) q = if rdOf false ac (q : Int) = true then fwdA ac.length W ns (deadF F) s n q else 0 := by unfold takeA; rw [if_neg (by rw [hd0]; simp)]); rw [htk, ha]
        first
         | (rw [if_pos rfl, if_pos rfl, min_val HGC.out.symm HCV.out (by omega) (by omega)]; omega)
         | (rw [if_neg (by simp), if_neg (by simp), ← HGC.out]; rfl)
       rw [ha] at hnew; simp only [if_true, Bool.false_eq_true, if_false] at hnew; have HNW := am hnew; clear hnew; go_wp2; rw [HNW.out]; clear x2 x3 hxA hcA p0 d1
       go_loopg [55] W (fun kq v55 w' => ∃ (own : Nat → Nat) (j nb8 : Nat) (M8 : DataW Unit), v55 = .int .i64 (j : Int) ∧ Aside0 (j + kq = W) ∧ Aside0 (Below w.heap.size w w') ∧ Aside0 (MapIs ac.length 1000000001 M8 (rowA ns (fun t => sumN ac.length (partA left (giveA W ns (deadF F) (fwdA ac.length W ns (deadF F) s n) t))) (fwdA ac.length W ns (deadF F) s n q) q j)) ∧ Aside0 (nb8 + cnt1 * 1000 + kq ≤ 2000000000) ∧ Aside0 (Sep own w' [(1, blkP w.heap.size (.cells #[.int .i64 tapes, .int .i64 (s : Int), .slice (some adA) ac.length c2, .slice (some ad1) ns.length c3] 78 (0, 0))), (2, rowP (Kd.int .i64) 3 w.heap.size (.slice (some ⟨gF, 0, none⟩) F.length cF) F), (3, rangeP Tryd.prog 3 (plainElem Tryd.prog 2) b r nb M (fun z => left z && !z.sameKey (litN q)) cnt1), (4, mapP Tryd.prog 3 (plainElem Tryd.prog 2) b8 nb8 M8)]))
       case atStart => exact ⟨_, 0, nb8, M8, rfl, ⟨by omega⟩, HB1, ⟨HM8.out.congr (fun t _ => rfl)⟩, ⟨by have := HNB.out; have := HLt.out; have := HC.out.2.2.1; omega⟩, HSp1⟩
       case round =>
        clear HB1 HSp1 HM8 HNB hx1'; obtain ⟨own, j, nb8, M8, rfl, HK4, HB, HM8, HNB, HSp⟩ := hrel
        cases gk with
        | zero =>
         (have hj : j = W := by have := HK4.out; omega); have e1 : decide ((j : Int) < (W : Int)) = false := decide_eq_false (by omega); have e2 : decide (j < W) = false := decide_eq_false (by omega)
         have HMd : Aside0 (MapIs ac.length 1000000001 M8 (fun t => sumN ac.length (partA (fun z => left z && !z.sameKey (litN q)) (giveA W ns (deadF F) (fwdA ac.length W ns (deadF F) s n) t)))) := ⟨by
          have h_ := HM8.out; rw [hj] at h_
          exact h_.congr (fun t ht => (rowA_end HQ.out.1 HLQ.out hd0).symm)⟩
         clear hj HK4; go_wp2
         go_roundw
         case rel => exact ⟨_, _, cnt1, nb8, M8, rfl, HB, HMd, ⟨by have := HNB.out; omega⟩, HSp⟩
         case measure => rw [(HSp.out.get (i := 2) rfl).1.left_eq, HRG.out.left_eq]; exact HLt.out
        | succ k3 =>
         (have hj : j < W := by have := HK4.out; omega); (have hjl : j < 1000 := by have := HC.out.2.2.1; omega); have e1 : decide ((j : Int) < (W : Int)) = true := decide_eq_true (by omega); have e2 : decide (j < W) = true := decide_eq_true hj; have p3 : (j < W) = True := eq_true hj; have hr := HT.out.stpd (q := (q : Int)) (c := (j : Int)) (by omega) (by have := HQ.out.1; omega) (by omega) (by omega); obtain ⟨ad2, ea2, hx2⟩ := Kd.at_int HCr.out (j : Int) (by omega) (by omega); subst ea2; rw [HST.out j] at hx2; obtain ⟨tq, htq⟩ := Int.eq_ofNat_of_zero_le hr.1; (have htl : tq < ac.length := by omega); rw [htq] at hx2; simp only [Int.toNat_natCast] at hx2; have hx2' := pw_cell_below HB.out hx2; have HTQ := am (And.intro htq htl); have hown8 : wr.ownsMap Tryd.prog 3 (plainElem Tryd.prog 2) b8 nb8 M8 := (HSp.out.get (i := 3) rfl).1; have HO8 := am hown8; have hwt : (Lit.int .i64 (tq : Int)).wf = true := i64_nat (by have := HC.out.2.1; omega); have HWT := am hwt; clear hx2 hr htq htl hown8 hwt hj
         go_wp2_with (first | (at_lookup; refine wpList_lookup_own_int _ rfl _ _ 144 rfl 3 2 .i64 (Maps.int_keyed Tryd.underlying3) Tryd.underlying144 Tryd.underlying2 (zero_i64 _) b8 nb8 M8 rfl HO8.out _ (litN tq) rfl (Maps.keyOf_int_mk Tryd.underlying3 HWT.out) ?_; intro y hat2 hwc2; have HY : Aside0 (y = ((min (rowA ns (fun t => sumN ac.length (partA left (giveA W ns (deadF F) (fwdA ac.length W ns (deadF F) s n) t))) (fwdA ac.length W ns (deadF F) s n q) q j tq) 1000000001 : Nat) : Int)) := ⟨by rw [show (DataW.lit (Lit.int .i64 0) : DataW Unit) = litV 0 from rfl, (HM8.out.2.2 tq HTQ.out.2).2] at hat2; unfold litV at hat2; simpa using hat2.symm⟩; clear hat2 hwc2) | (at_mapUpdate; refine wpList_mapUpdate_own _ rfl _ _ _ 144 rfl 3 2 (Maps.int_keyed Tryd.underlying3) Tryd.underlying144 _ b8 nb8 M8 rfl HO8.out ?uM _ (.int .i64 (mn (wrap64 (y + c)) 1000000001)) (litN tq) rfl rfl (Maps.keyOf_int_mk Tryd.underlying3 HWT.out) _ [] (plainElem_int Tryd.underlying2 ?uW) ?_; (case uM => unfold maxLen; have := HNB.out; omega); (case uW => rw [min_val HY.out HCV.out (by omega) (by omega)]; exact i64_nat (by omega)); intro w3 hown3 hg3; rw [min_val HY.out HCV.out (by omega) (by omega)] at hown3; have HO3 := am hown3; have HG3 := am hg3; clear hown3 hg3; go_frame) | go_in)
         have HSp3 := am (HSp.out.mapped 3 rfl HO3.out HG3.out rfl); simp only [List.set_cons_succ, List.set_cons_zero] at HSp3; have HB3 := am (HB.out.grown HG3.out HB.out.size (fun k hk => by cases hk; exact HRB8.out)); have HM3 := am (HM8.out.put (x := fwdA ac.length W ns (deadF F) s n q) HTQ.out.2 HQ.out.2 rfl (rowA_hit HTQ.out.1) (fun q' _ hne => rowA_miss (fun h => hne (by have := HTQ.out.1; omega)))); clear HSp HB HO8 HO3 HG3 HM8 hx2' HY; go_roundg k3
         case measure => omega
         case rel => exact ⟨_, j + 1, nb8 + 1, _, by go_num, ⟨by have := HK4.out; omega⟩, HB3, HM3, ⟨by have := HNB.out; omega⟩, HSp3⟩
end Go.Proofs.YtelicdmaohllgaaDoor.X
namespace Go.Proofs.YtelicdmaohllgaaDoor.X
set_option maxHeartbeats 16000000
set_option maxRecDepth 100000
open Go.RowKit Go.Proofs.YtelicdmaohllgaaDoorW.PrintWords Go.Proofs.YtelicdmaohllgaaDoorW.PrintLast Go.Proofs.YtelicdmaohllgaaDoorW.PrintMore
attribute [local go_sem] max2_int min2_int max_two min_two max_three min_three max_four min_four
set_option linter.unusedVariables false
set_option linter.unusedSimpArgs false
instance tableDecC (W n : Nat) (ns : List (List Int)) : Decidable (TableOK W n ns) := by unfold TableOK; infer_instance
def countQ (s : Int) (l2 : List Bool) (l3 : List (List Int)) (F : List Int) : Prop := F.length = l2.length ∧ TableOK (l3.getD 0 []).length l2.length l3 ∧ l2.length ≤ 2000000 ∧ (l3.getD 0 []).length ≤ 1000 ∧ 0 ≤ s ∧ s < (l2.length : Int)
instance countDec (s : Int) (l2 : List Bool) (l3 : List (List Int)) (F : List Int) : Decidable (countQ s l2 l3 F) := by unfold countQ; infer_instance
def impl_machine_countAll.f (k : Nat) (a0_0 : Int) (a0_1 : Int) (l0_2 : List Bool) (l0_3 : List (List Int)) : Option (Int × Bool) := (impl_machine_far.f k a0_0 a0_1 l0_2 l0_3).bind fun F => if countQ a0_1 l0_2 l0_3 F then some (countR l0_2.length (l0_3.getD 0 []).length l0_2 l0_3 (deadF F) 1000000001 a0_1.toNat) else none
theorem impl_machine_countAll.calls (k : Nat) (a0_0 : Int) (a0_1 : Int) (A0_2 : Option Addr) (c0_2 : Nat) (l0_2 : List Bool) (A0_3 : Option Addr) (c0_3 : Nat) (l0_3 : List (List Int)) (r1 : Int) (r2 : Bool) (w : World) (hr0_2 : Kd.C Kd.bool w A0_2 l0_2.length l0_2) (hc0_2 : l0_2.length ≤ c0_2) (hr0_3 : Kd.C (Kd.slice 3 (Kd.int .i64)) w A0_3 l0_3.length l0_3) (hc0_3 : l0_3.length ≤ c0_3) (h : impl_machine_countAll.f k a0_0 a0_1 l0_2 l0_3 = some (r1, r2)) :
  Calls Tryd.prog 89 #[.agg #[.int .i64 a0_0, .int .i64 a0_1, .slice A0_2 l0_2.length c0_2, .slice A0_3 l0_3.length c0_3]] w fun e w' => e = .returned (.tuple #[.int .i64 r1, .bool r2]) ∧ Below w.heap.size w w' := by
 unfold impl_machine_countAll.f at h; obtain ⟨F, hF, h2⟩ := oB h; by_cases hq : countQ a0_1 l0_2 l0_3 F
 case neg => rw [if_neg hq] at h2; cases h2
 rw [if_pos hq] at h2; obtain ⟨p1, p2, p3, p4, p5, p6⟩ := hq; obtain ⟨s, rfl⟩ := Int.eq_ofNat_of_zero_le p5; have h3 := Option.some.inj h2; rw [Int.toNat_natCast] at h3; have hc := countAll_calls w a0_0 A0_2 c0_2 l0_2 A0_3 c0_3 l0_3 hr0_2 hc0_2 hr0_3 hc0_3 hF p1 p2 p3 p4 (by omega); rw [h3] at hc; exact hc
def impl_machine_counted.f (k : Nat) (a0_0 : Int) (a0_1 : Int) (l0_2 : List Bool) (l0_3 : List (List Int)) : Option (Int × Int) := (impl_machine_countAll.f k a0_0 a0_1 l0_2 l0_3).bind fun bt803 => (if bt803.2 = true then (if bt803.1 > 1000000000 then (some (0, 3)) else (some (bt803.1, 0))) else (some (0, 4)))
theorem impl_machine_counted.calls (k : Nat) (a0_0 : Int) (a0_1 : Int) (A0_2 : Option Addr) (c0_2 : Nat) (l0_2 : List Bool) (A0_3 : Option Addr) (c0_3 : Nat) (l0_3 : List (List Int)) (r1 : Int) (r2 : Int) (w : World) (hr0_2 : Kd.C Kd.bool w A0_2 l0_2.length l0_2) (hc0_2 : l0_2.length ≤ c0_2) (hr0_3 : Kd.C (Kd.slice 3 (Kd.int .i64)) w A0_3 l0_3.length l0_3) (hc0_3 : l0_3.length ≤ c0_3) (h : impl_machine_counted.f k a0_0 a0_1 l0_2 l0_3 = some (r1, r2)) :
  Calls Tryd.prog 94 #[.agg #[.int .i64 a0_0, .int .i64 a0_1, .slice A0_2 l0_2.length c0_2, .slice A0_3 l0_3.length c0_3]] w fun e w' => e = .returned (.tuple #[.int .i64 r1, .int .i64 r2]) ∧ Below w.heap.size w w' := by
 have hu78 := Tryd.underlying78; have HR0_2 := am hr0_2; have HC0_2 := am hc0_2; clear hr0_2 hc0_2; have HR0_3 := am hr0_3; have HC0_3 := am hc0_3; clear hr0_3 hc0_3; have HB := am (Below.refl w.heap.size w); have H : ((impl_machine_countAll.f k a0_0 a0_1 l0_2 l0_3).bind fun bt803 => (if bt803.2 = true then (if bt803.1 > 1000000000 then (some (0, 3)) else (some (bt803.1, 0))) else (some (0, 4)))) = some (r1, r2) := h; clear h; obtain ⟨⟨t803, t804⟩, A20, H⟩ := oB H; replace H : (if t804 = true then (if t803 > 1000000000 then (some (0, 3)) else (some (t803, 0))) else (some (0, 4))) = some (r1, r2) := H; have A2 := am A20; clear A20; by_cases c3 : t804 = true
 ·subst c3; (have H1 : (if t803 > 1000000000 then (some (0, 3)) else (some (t803, 0))) = some (r1, r2) := by rw [if_pos rfl] at H; exact H); clear H; have H := H1; clear H1; by_cases c4 : t803 > 1000000000
  ·rw [if_pos c4] at H; have c4b0 : decide (1000000000 < t803) = true := decide_eq_true c4; clear c4; simp only [Option.some.injEq, Prod.mk.injEq] at H; obtain ⟨rfl, rfl⟩ := H; go_enter Tryd.func94, Tryd.ntmps94
   go_wp2_with (first | ((with_reducible refine gate_dst (N := 1) rfl ?_); refine boxA 1 #[.int .i64 a0_0, .int .i64 a0_1, .slice A0_2 l0_2.length c0_2, .slice A0_3 l0_3.length c0_3] 78 rfl rfl (h := ?_); intro gb802 hg w5 hbox hb; have BK802 := am (hbox); have GW802 := am ((by rw [hg]; exact (below_size (tB)) : w.heap.size ≤ gb802)); have GE802 := am ((by rw [hg]; exact (below_size (tB)) : w.heap.size ≤ gb802)); replace HB := am (below_step (tB) hb); clear hb hbox hg; obtain ⟨hcz6_0, hcz6_1, hcz6_2, hcz6_3⟩ := bc4 BK802.out; have hfz6_0 := blk_frozen BK802.out 0; have hfz6_1 := blk_frozen BK802.out 1; have hfz6_2 := blk_frozen BK802.out 2; have hfz6_3 := blk_frozen BK802.out 3) | ((with_reducible refine gate_callee (f := 89) rfl ?_); refine goesLA (some 8) Tryd.func89 #[.agg #[.int .i64 a0_0, .int .i64 a0_1, .slice A0_2 l0_2.length c0_2, .slice A0_3 l0_3.length c0_3]] rfl rfl rfl (h := ?_); (with_reducible refine (impl_machine_countAll.calls k a0_0 a0_1 _ _ l0_2 _ _ l0_3 t803 true _ ?side1 ?side2 ?side3 ?side4 A2.out).mono ?_); (case side1 => exact tC (Kd.C_below HR0_2.out HB.out)); (case side2 => exact HC0_2.out); (case side3 => exact tC (Kd.C_below HR0_3.out HB.out)); (case side4 => exact HC0_3.out); rintro e w7 ⟨rfl, hb⟩; refine ⟨_, rfl, ?_⟩; replace BK802 := am (bkb BK802.out hb); replace HB := am (below_step (tB) hb); (try clear hb); (try clear hb2); (try clear hk); (try clear hi)))
   go_ret2; exact ⟨tE, tB⟩
  ·rw [if_neg c4] at H; have c4b0 : decide (1000000000 < t803) = false := decide_eq_false c4; clear c4; simp only [Option.some.injEq, Prod.mk.injEq] at H; obtain ⟨rfl, rfl⟩ := H; go_enter Tryd.func94, Tryd.ntmps94
   go_wp2_with (first | ((with_reducible refine gate_dst (N := 1) rfl ?_); refine boxA 1 #[.int .i64 a0_0, .int .i64 a0_1, .slice A0_2 l0_2.length c0_2, .slice A0_3 l0_3.length c0_3] 78 rfl rfl (h := ?_); intro gb802 hg w8 hbox hb; have BK802 := am (hbox); have GW802 := am ((by rw [hg]; exact (below_size (tB)) : w.heap.size ≤ gb802)); have GE802 := am ((by rw [hg]; exact (below_size (tB)) : w.heap.size ≤ gb802)); replace HB := am (below_step (tB) hb); clear hb hbox hg; obtain ⟨hcz9_0, hcz9_1, hcz9_2, hcz9_3⟩ := bc4 BK802.out; have hfz9_0 := blk_frozen BK802.out 0; have hfz9_1 := blk_frozen BK802.out 1; have hfz9_2 := blk_frozen BK802.out 2; have hfz9_3 := blk_frozen BK802.out 3) | ((with_reducible refine gate_callee (f := 89) rfl ?_); refine goesLA (some 8) Tryd.func89 #[.agg #[.int .i64 a0_0, .int .i64 a0_1, .slice A0_2 l0_2.length c0_2, .slice A0_3 l0_3.length c0_3]] rfl rfl rfl (h := ?_); (with_reducible refine (impl_machine_countAll.calls k a0_0 a0_1 _ _ l0_2 _ _ l0_3 t803 true _ ?side1 ?side2 ?side3 ?side4 A2.out).mono ?_); (case side1 => exact tC (Kd.C_below HR0_2.out HB.out)); (case side2 => exact HC0_2.out); (case side3 => exact tC (Kd.C_below HR0_3.out HB.out)); (case side4 => exact HC0_3.out); rintro e w10 ⟨rfl, hb⟩; refine ⟨_, rfl, ?_⟩; replace BK802 := am (bkb BK802.out hb); replace HB := am (below_step (tB) hb); (try clear hb); (try clear hb2); (try clear hk); (try clear hi)))
   go_ret2; exact ⟨tE, tB⟩
 ·replace c3 := Bool.eq_false_iff.mpr c3; subst c3; (have H1 : (some (0, 4)) = some (r1, r2) := by rw [if_neg (show ¬ (false = true) by decide)] at H; exact H); clear H; have H := H1; clear H1; simp only [Option.some.injEq, Prod.mk.injEq] at H; obtain ⟨rfl, rfl⟩ := H; go_enter Tryd.func94, Tryd.ntmps94
  go_wp2_with (first | ((with_reducible refine gate_dst (N := 1) rfl ?_); refine boxA 1 #[.int .i64 a0_0, .int .i64 a0_1, .slice A0_2 l0_2.length c0_2, .slice A0_3 l0_3.length c0_3] 78 rfl rfl (h := ?_); intro gb802 hg w11 hbox hb; have BK802 := am (hbox); have GW802 := am ((by rw [hg]; exact (below_size (tB)) : w.heap.size ≤ gb802)); have GE802 := am ((by rw [hg]; exact (below_size (tB)) : w.heap.size ≤ gb802)); replace HB := am (below_step (tB) hb); clear hb hbox hg; obtain ⟨hcz12_0, hcz12_1, hcz12_2, hcz12_3⟩ := bc4 BK802.out; have hfz12_0 := blk_frozen BK802.out 0; have hfz12_1 := blk_frozen BK802.out 1; have hfz12_2 := blk_frozen BK802.out 2; have hfz12_3 := blk_frozen BK802.out 3) | ((with_reducible refine gate_callee (f := 89) rfl ?_); refine goesLA (some 8) Tryd.func89 #[.agg #[.int .i64 a0_0, .int .i64 a0_1, .slice A0_2 l0_2.length c0_2, .slice A0_3 l0_3.length c0_3]] rfl rfl rfl (h := ?_); (with_reducible refine (impl_machine_countAll.calls k a0_0 a0_1 _ _ l0_2 _ _ l0_3 t803 false _ ?side1 ?side2 ?side3 ?side4 A2.out).mono ?_); (case side1 => exact tC (Kd.C_below HR0_2.out HB.out)); (case side2 => exact HC0_2.out); (case side3 => exact tC (Kd.C_below HR0_3.out HB.out)); (case side4 => exact HC0_3.out); rintro e w13 ⟨rfl, hb⟩; refine ⟨_, rfl, ?_⟩; replace BK802 := am (bkb BK802.out hb); replace HB := am (below_step (tB) hb); (try clear hb); (try clear hb2); (try clear hk); (try clear hi)))
  go_ret2; exact ⟨tE, tB⟩
def impl_CountAll.f (k : Nat) (a0_0 : Int) (a0_1 : Int) (l0_2 : List Bool) (l0_3 : List (List Int)) : Option (Int × Int) := (impl_ValidRelation.f k a0_0 a0_1 l0_2 l0_3).bind fun t806 => (if t806 = true then ((impl_tidyOf.f k a0_0 a0_1 l0_2 l0_3).bind fun bt807 => ((impl_machine_counted.f k bt807.1 bt807.2.1 bt807.2.2.1 bt807.2.2.2).bind fun bt815 => (some (bt815.1, bt815.2)))) else (some (0, 1)))
theorem impl_CountAll.calls (k : Nat) (a0_0 : Int) (a0_1 : Int) (A0_2 : Option Addr) (c0_2 : Nat) (l0_2 : List Bool) (A0_3 : Option Addr) (c0_3 : Nat) (l0_3 : List (List Int)) (r1 : Int) (r2 : Int) (w : World) (htab : TabOK w) (hr0_2 : Kd.C Kd.bool w A0_2 l0_2.length l0_2) (hc0_2 : l0_2.length ≤ c0_2) (hr0_3 : Kd.C (Kd.slice 2 (Kd.int .i64)) w A0_3 l0_3.length l0_3) (hc0_3 : l0_3.length ≤ c0_3) (h : impl_CountAll.f k a0_0 a0_1 l0_2 l0_3 = some (r1, r2)) :
  Calls Tryd.prog 46 #[.agg #[.int .i64 a0_0, .int .i64 a0_1, .slice A0_2 l0_2.length c0_2, .slice A0_3 l0_3.length c0_3]] w fun e w' => e = .returned (.tuple #[.int .i64 r1, .int .i64 r2]) ∧ Below w.heap.size w w' := by
 have HTab := am htab; clear htab; have hu38 := Tryd.underlying38; have HR0_2 := am hr0_2; have HC0_2 := am hc0_2; clear hr0_2 hc0_2; have HR0_3 := am hr0_3; have HC0_3 := am hc0_3; clear hr0_3 hc0_3; have HB := am (Below.refl w.heap.size w); have H : ((impl_ValidRelation.f k a0_0 a0_1 l0_2 l0_3).bind fun t806 => (if t806 = true then ((impl_tidyOf.f k a0_0 a0_1 l0_2 l0_3).bind fun bt807 => ((impl_machine_counted.f k bt807.1 bt807.2.1 bt807.2.2.1 bt807.2.2.2).bind fun bt815 => (some (bt815.1, bt815.2)))) else (some (0, 1)))) = some (r1, r2) := h; clear h; obtain ⟨t806, A20, H⟩ := oB H; replace H : (if t806 = true then ((impl_tidyOf.f k a0_0 a0_1 l0_2 l0_3).bind fun bt807 => ((impl_machine_counted.f k bt807.1 bt807.2.1 bt807.2.2.1 bt807.2.2.2).bind fun bt815 => (some (bt815.1, bt815.2)))) else (some (0, 1))) = some (r1, r2) := H; have A2 := am A20; clear A20; by_cases c3 : t806 = true
 ·subst c3; (have H1 : ((impl_tidyOf.f k a0_0 a0_1 l0_2 l0_3).bind fun bt807 => ((impl_machine_counted.f k bt807.1 bt807.2.1 bt807.2.2.1 bt807.2.2.2).bind fun bt815 => (some (bt815.1, bt815.2)))) = some (r1, r2) := by rw [if_pos rfl] at H; exact H); clear H; have H := H1; clear H1; obtain ⟨⟨t807, t808, t809, t812⟩, A40, H⟩ := oB H; replace H : ((impl_machine_counted.f k t807 t808 t809 t812).bind fun bt815 => (some (bt815.1, bt815.2))) = some (r1, r2) := H; have A4 := am A40; clear A40; obtain ⟨⟨t815, t816⟩, A50, H⟩ := oB H; replace H : (some (t815, t816)) = some (r1, r2) := H; have A5 := am A50; clear A50; simp only [Option.some.injEq, Prod.mk.injEq] at H; obtain ⟨rfl, rfl⟩ := H; go_enter Tryd.func46, Tryd.ntmps46
  go_wp2_with (first | ((with_reducible refine gate_dst (N := 1) rfl ?_); refine boxA 1 #[.int .i64 a0_0, .int .i64 a0_1, .slice A0_2 l0_2.length c0_2, .slice A0_3 l0_3.length c0_3] 38 rfl rfl (h := ?_); intro gb805 hg w6 hbox hb; have BK805 := am (hbox); have GW805 := am ((by rw [hg]; exact (below_size (tB)) : w.heap.size ≤ gb805)); have GE805 := am ((by rw [hg]; exact (below_size (tB)) : w.heap.size ≤ gb805)); replace HB := am (below_step (tB) hb); clear hb hbox hg; obtain ⟨hcz7_0, hcz7_1, hcz7_2, hcz7_3⟩ := bc4 BK805.out; have hfz7_0 := blk_frozen BK805.out 0; have hfz7_1 := blk_frozen BK805.out 1; have hfz7_2 := blk_frozen BK805.out 2; have hfz7_3 := blk_frozen BK805.out 3) | ((with_reducible refine gate_callee (f := 81) rfl ?_); refine goesLA (some 5) Tryd.func81 #[.agg #[.int .i64 a0_0, .int .i64 a0_1, .slice A0_2 l0_2.length c0_2, .slice A0_3 l0_3.length c0_3]] rfl rfl rfl (h := ?_); (with_reducible refine (impl_ValidRelation.calls k a0_0 a0_1 _ _ l0_2 _ _ l0_3 true _ ?side1 ?side2 ?side3 ?side4 A2.out).mono ?_); (case side1 => exact tC (Kd.C_below HR0_2.out HB.out)); (case side2 => exact HC0_2.out); (case side3 => exact tC (Kd.C_below HR0_3.out HB.out)); (case side4 => exact HC0_3.out); rintro e w8 ⟨rfl, hb⟩; refine ⟨_, rfl, ?_⟩; replace BK805 := am (bkb BK805.out hb); replace HB := am (below_step (tB) hb); (try clear hb); (try clear hb2); (try clear hk); (try clear hi); obtain ⟨hcz9_0, hcz9_1, hcz9_2, hcz9_3⟩ := bc4 BK805.out; have hfz9_0 := blk_frozen BK805.out 0; have hfz9_1 := blk_frozen BK805.out 1; have hfz9_2 := blk_frozen BK805.out 2; have hfz9_3 := blk_frozen BK805.out 3) | ((with_reducible refine gate_callee (f := 86) rfl ?_); refine goesLA (some 8) Tryd.func86 #[.agg #[.int .i64 a0_0, .int .i64 a0_1, .slice A0_2 l0_2.length c0_2, .slice A0_3 l0_3.length c0_3]] rfl rfl rfl (h := ?_); (with_reducible refine (impl_tidyOf.calls k a0_0 a0_1 _ _ l0_2 _ _ l0_3 t807 t808 t809 t812 _ (tab_below HTab.out (by repeat (first | (with_reducible first | exact HB.out | apply below_alloc | apply pw_below_drewN | apply below_drew1 | refine below_set ?_ GE805.out) | exact HB.out | exact Below.refl _ _))) ?side1 ?side2 ?side3 ?side4 A4.out).mono ?_); (case side1 => exact tC (Kd.C_below HR0_2.out HB.out)); (case side2 => exact HC0_2.out); (case side3 => exact tC (Kd.C_below HR0_3.out HB.out)); (case side4 => exact HC0_3.out); rintro e w10 ⟨v810, v813, rfl, ho0, ho1, hb⟩; refine ⟨_, rfl, ?_⟩; have HO811 := am (Kd.R_lower ho0 (below_size (tB))); have HO814 := am (Kd.S_lower ho1 (below_size (tB))); replace BK805 := am (bkb BK805.out hb); replace HB := am (below_step (tB) hb); (try clear hb); (try clear hb2); (try clear hk); (try clear hi); (try clear ho0); (try clear ho1); obtain ⟨Ao11, co11, eo11⟩ := Kd.R_slice HO811.out; subst eo11; obtain ⟨Ao12, co12, eo12⟩ := Kd.S_slice HO814.out; subst eo12) | ((with_reducible refine gate_callee (f := 94) rfl ?_); refine goesLA (some 9) Tryd.func94 #[.agg #[.int .i64 t807, .int .i64 t808, .slice Ao11 t809.length co11, .slice Ao12 t812.length co12]] rfl rfl rfl (h := ?_); (with_reducible refine (impl_machine_counted.calls k t807 t808 _ _ t809 _ _ t812 t815 t816 _ ?side1 ?side2 ?side3 ?side4 A5.out).mono ?_); (case side1 => exact tC (Kd.R_reads' HO811.out).2.2); (case side2 => exact (Kd.R_reads' HO811.out).2.1); (case side3 => exact tC (Kd.S_reads' HO814.out).2.2); (case side4 => exact (Kd.S_reads' HO814.out).2.1); rintro e w13 ⟨rfl, hb⟩; refine ⟨_, rfl, ?_⟩; replace HO811 := am (Kd.R_below (tR HO811.out) hb); replace HO814 := am (Kd.S_below (tS HO814.out) hb); replace BK805 := am (bkb BK805.out hb); replace HB := am (below_step (tB) hb); (try clear hb); (try clear hb2); (try clear hk); (try clear hi)))
  go_ret2; exact ⟨tE, tB⟩
 ·replace c3 := Bool.eq_false_iff.mpr c3; subst c3; (have H1 : (some (0, 1)) = some (r1, r2) := by rw [if_neg (show ¬ (false = true) by decide)] at H; exact H); clear H; have H := H1; clear H1; simp only [Option.some.injEq, Prod.mk.injEq] at H; obtain ⟨rfl, rfl⟩ := H; go_enter Tryd.func46, Tryd.ntmps46
  go_wp2_with (first | ((with_reducible refine gate_dst (N := 1) rfl ?_); refine boxA 1 #[.int .i64 a0_0, .int .i64 a0_1, .slice A0_2 l0_2.length c0_2, .slice A0_3 l0_3.length c0_3] 38 rfl rfl (h := ?_); intro gb805 hg w14 hbox hb; have BK805 := am (hbox); have GW805 := am ((by rw [hg]; exact (below_size (tB)) : w.heap.size ≤ gb805)); have GE805 := am ((by rw [hg]; exact (below_size (tB)) : w.heap.size ≤ gb805)); replace HB := am (below_step (tB) hb); clear hb hbox hg; obtain ⟨hcz15_0, hcz15_1, hcz15_2, hcz15_3⟩ := bc4 BK805.out; have hfz15_0 := blk_frozen BK805.out 0; have hfz15_1 := blk_frozen BK805.out 1; have hfz15_2 := blk_frozen BK805.out 2; have hfz15_3 := blk_frozen BK805.out 3) | ((with_reducible refine gate_callee (f := 81) rfl ?_); refine goesLA (some 5) Tryd.func81 #[.agg #[.int .i64 a0_0, .int .i64 a0_1, .slice A0_2 l0_2.length c0_2, .slice A0_3 l0_3.length c0_3]] rfl rfl rfl (h := ?_); (with_reducible refine (impl_ValidRelation.calls k a0_0 a0_1 _ _ l0_2 _ _ l0_3 false _ ?side1 ?side2 ?side3 ?side4 A2.out).mono ?_); (case side1 => exact tC (Kd.C_below HR0_2.out HB.out)); (case side2 => exact HC0_2.out); (case side3 => exact tC (Kd.C_below HR0_3.out HB.out)); (case side4 => exact HC0_3.out); rintro e w16 ⟨rfl, hb⟩; refine ⟨_, rfl, ?_⟩; replace BK805 := am (bkb BK805.out hb); replace HB := am (below_step (tB) hb); (try clear hb); (try clear hb2); (try clear hk); (try clear hi)))
  go_ret2; exact ⟨tE, tB⟩
end Go.Proofs.YtelicdmaohllgaaDoor.X
namespace Go.Proofs.YtelicdmaohllgaaDoor.X
set_option maxHeartbeats 16000000
set_option maxRecDepth 100000
open Go.RowKit Go.Proofs.YtelicdmaohllgaaDoorW.PrintWords Go.Proofs.YtelicdmaohllgaaDoorW.PrintLast Go.Proofs.YtelicdmaohllgaaDoorW.PrintMore
set_option linter.unusedVariables false
set_option linter.unusedSimpArgs false
open Classical in
noncomputable def laws_FnExactCountAll.f (k : Nat) (t0 : Int) (s0 : Int) (l02 : List Bool) (l03 : List (List Int)) : Option Bool := (laws_szRelation.f k t0 s0 l02 l03 1048576).bind fun z1 => if z1 < 0 then some true else if laws_toRelation.f k t0 s0 l02 l03 = some (t0, s0, l02, l03) then ((spec_CountAll.f k t0 s0 l02 l03).bind fun | (r0, r1) => if impl_CountAll.f k t0 s0 l02 l03 = some (r0, r1) then (if laws_eqRelation.f k t0 s0 l02 l03 t0 s0 l02 l03 = some true then (some true) else none) else none) else none
theorem laws_FnExactCountAll.main (k : Nat) (t0 s0 : Int) (A02 : Option Addr) (c02 : Nat) (l02 : List Bool) (A03 : Option Addr) (c03 : Nat) (l03 : List (List Int)) (w : World) (htab : TabOK w) (hr02 : Kd.C Kd.bool w A02 l02.length l02) (hc02 : l02.length ≤ c02) (hr03 : Kd.C (Kd.slice 2 (Kd.int .i64)) w A03 l03.length l03) (hc03 : l03.length ≤ c03) (z1 : Int) (r0 : Int) (r1 : Int) (hz1 : laws_szRelation.f k t0 s0 l02 l03 1048576 = some z1) (ht0 : laws_toRelation.f k t0 s0 l02 l03 = some (t0, s0, l02, l03)) (hS : spec_CountAll.f k t0 s0 l02 l03 = some (r0, r1)) (hI : impl_CountAll.f k t0 s0 l02 l03 = some (r0, r1)) (he0 : laws_eqRelation.f k t0 s0 l02 l03 t0 s0 l02 l03 = some true) (hsz1 : ¬ z1 < 0) :
  Calls Tryd.prog 10 #[.agg #[.int .i64 t0, .int .i64 s0, .slice A02 l02.length c02, .slice A03 l03.length c03]] w fun e w' => e = .returned (.bool true) ∧ Below w.heap.size w w' := by
 have HR02 := am hr02; have HC02 := am hc02; have HR03 := am hr03; have HC03 := am hc03; have HZ1 := am hz1; have HT0 := am ht0; have HS := am hS; have HI := am hI; have HE0 := am he0; have HSZ1 := am hsz1; have HT := am htab; clear hr02 hc02 hr03 hc03 hz1 ht0 hS hI he0 hsz1 htab; have HB_w := am (Below.refl w.heap.size w); go_enter Tryd.func10, Tryd.ntmps10
 go_wp2_with (fail)
 have HB_w1 := am (below_alloc (Below.refl w.heap.size w) (.cells #[.int .i64 t0, .int .i64 s0, .slice A02 l02.length c02, .slice A03 l03.length c03] 46)); have BXp0_w1 : Aside0 ((((w.alloc (.cells #[.int .i64 t0, .int .i64 s0, .slice A02 l02.length c02, .slice A03 l03.length c03] 46))).heap)[w.heap.size]? = some (.cells #[.int .i64 t0, .int .i64 s0, .slice A02 l02.length c02, .slice A03 l03.length c03] 46 (0, 0))) := am (by have q_ := (blk_new w (.cells #[.int .i64 t0, .int .i64 s0, .slice A02 l02.length c02, .slice A03 l03.length c03] 46)); simpa using q_); have HZ_w1 := am (show w.heap.size + 1 ≤ ((w.alloc (.cells #[.int .i64 t0, .int .i64 s0, .slice A02 l02.length c02, .slice A03 l03.length c03] 46))).heap.size by simp); generalize (w.alloc (.cells #[.int .i64 t0, .int .i64 s0, .slice A02 l02.length c02, .slice A03 l03.length c03] 46)) = w1 at *; (with_reducible refine (laws_szRelation.calls k t0 s0 _ _ l02 _ _ l03 1048576 z1 _ (Kd.C_below HR02.out HB_w1.out) HC02.out (Kd.C_below HR03.out HB_w1.out) HC03.out HZ1.out).mono ?_); rintro e w2 ⟨rfl, hb⟩; have HZ_w2 := am (show w1.heap.size + 0 ≤ w2.heap.size by have := hb.size; omega); have HB_w2 := am (below_then HB_w1.out HB_w1.out.size hb); have BXp0_w2 := am (blk_below BXp0_w1.out hb); clear HB_w1 BXp0_w1; clear hb; have hsz1 : decide (z1 < 0) = false := decide_eq_false (by have q_ := HSZ1.out; omega); obtain ⟨hx0_0, hx0_1, hx0_2, hx0_3⟩ := bc4 BXp0_w2.out
 go_wp2_with (fail)
 clear hx0_0 hx0_1 hx0_2 hx0_3; (with_reducible refine (laws_toRelation.calls k t0 s0 _ _ l02 _ _ l03 t0 s0 l02 l03 _ (Kd.C_below HR02.out HB_w2.out) HC02.out (Kd.C_below HR03.out HB_w2.out) HC03.out HT0.out).mono ?_); rintro e w3 ⟨vx202, vx203, rfl, hx202, hx203, hb⟩; obtain ⟨Ax202, cx202, hvx202⟩ := Kd.R_slice hx202; subst hvx202; obtain ⟨Ax203, cx203, hvx203⟩ := Kd.S_slice hx203; subst hvx203; have HZ_w3 := am (show w2.heap.size + 0 ≤ w3.heap.size by have := hb.size; omega); have RIx20_w3 := am (RelOwn.mk_ (base := w.heap.size) HB_w2.out.size hx202 hx203); have HB_w3 := am (below_then HB_w2.out HB_w2.out.size hb); have BXp0_w3 := am (blk_below BXp0_w2.out hb); clear HB_w2 BXp0_w2; clear hx202 hx203 hb
 go_wp2_with (fail)
 (with_reducible refine (spec_CountAll.calls k t0 s0 _ _ l02 _ _ l03 r0 r1 _ RIx20_w3.out.reads.1 RIx20_w3.out.reads.2.1 RIx20_w3.out.reads.2.2.1 RIx20_w3.out.reads.2.2.2 HS.out).mono ?_); rintro e w4 ⟨rfl, hb⟩; have HZ_w4 := am (show w3.heap.size + 0 ≤ w4.heap.size by have := hb.size; omega); have HB_w4 := am (below_then HB_w3.out HB_w3.out.size hb); have BXp0_w4 := am (blk_below BXp0_w3.out hb); have RIx20_w4 := am (RIx20_w3.out.below hb); clear HB_w3 BXp0_w3 RIx20_w3; clear hb; obtain ⟨hx0_0, hx0_1, hx0_2, hx0_3⟩ := bc4 BXp0_w4.out
 go_wp2_with (fail)
 clear hx0_0 hx0_1 hx0_2 hx0_3; (with_reducible refine (laws_toRelation.calls k t0 s0 _ _ l02 _ _ l03 t0 s0 l02 l03 _ (Kd.C_below HR02.out HB_w4.out) HC02.out (Kd.C_below HR03.out HB_w4.out) HC03.out HT0.out).mono ?_); rintro e w5 ⟨vx402, vx403, rfl, hx402, hx403, hb⟩; obtain ⟨Ax402, cx402, hvx402⟩ := Kd.R_slice hx402; subst hvx402; obtain ⟨Ax403, cx403, hvx403⟩ := Kd.S_slice hx403; subst hvx403; have HZ_w5 := am (show w4.heap.size + 0 ≤ w5.heap.size by have := hb.size; omega); have RIx40_w5 := am (RelOwn.mk_ (base := w.heap.size) HB_w4.out.size hx402 hx403); have HB_w5 := am (below_then HB_w4.out HB_w4.out.size hb); have BXp0_w5 := am (blk_below BXp0_w4.out hb); have RIx20_w5 := am (RIx20_w4.out.below hb); clear HB_w4 BXp0_w4 RIx20_w4; clear hx402 hx403 hb
 go_upto_region 7 with (fail)
 have BX6_w6 := am (blk_new w5 (.cells #[.int .i64 t0, .int .i64 s0, .slice Ax402 l02.length cx402, .slice Ax403 l03.length cx403] 38)); have hb := below_alloc (Below.refl w5.heap.size w5) (.cells #[.int .i64 t0, .int .i64 s0, .slice Ax402 l02.length cx402, .slice Ax403 l03.length cx403] 38); have HZ_w6 := am (show w5.heap.size + 1 ≤ (w5.alloc (.cells #[.int .i64 t0, .int .i64 s0, .slice Ax402 l02.length cx402, .slice Ax403 l03.length cx403] 38)).heap.size by simp); have HB_w6 := am (below_then HB_w5.out HB_w5.out.size hb); have BXp0_w6 := am (blk_below BXp0_w5.out hb); have RIx20_w6 := am (RIx20_w5.out.below hb); have RIx40_w6 := am (RIx40_w5.out.below hb); clear HB_w5 BXp0_w5 RIx20_w5 RIx40_w5; clear hb; generalize w5.alloc _ = w6 at *; obtain ⟨hx0_0, hx0_1, hx0_2, hx0_3⟩ := bc4 BX6_w6.out
 go_wp2_with (fail)
 clear hx0_0 hx0_1 hx0_2 hx0_3; (with_reducible refine (impl_CountAll.calls k t0 s0 _ _ l02 _ _ l03 r0 r1 _ (tab_below HT.out HB_w6.out) RIx40_w6.out.reads.1 RIx40_w6.out.reads.2.1 RIx40_w6.out.reads.2.2.1 RIx40_w6.out.reads.2.2.2 HI.out).mono ?_); rintro e w7 ⟨rfl, hb⟩; have HZ_w7 := am (show w6.heap.size + 0 ≤ w7.heap.size by have := hb.size; omega); have HB_w7 := am (below_then HB_w6.out HB_w6.out.size hb); have BXp0_w7 := am (blk_below BXp0_w6.out hb); have RIx20_w7 := am (RIx20_w6.out.below hb); have RIx40_w7 := am (RIx40_w6.out.below hb); have BX6_w7 := am (blk_below BX6_w6.out hb); clear HB_w6 BXp0_w6 RIx20_w6 RIx40_w6 BX6_w6; clear hb
 go_upto_region 10 with (fail)
 have HB_w8 := am (below_drew1 HB_w7.out); have BXp0_w8 := am (blk_drew BXp0_w7.out); have RIx20_w8 := am (RIx20_w7.out.below (below_drew (Below.refl _ _))); have RIx40_w8 := am (RIx40_w7.out.below (below_drew (Below.refl _ _))); have BX6_w8 := am (blk_drew BX6_w7.out); clear HB_w7 BXp0_w7 RIx20_w7 RIx40_w7 BX6_w7; have HZ_w8 := am (show w7.heap.size + 0 ≤ w7.drew.heap.size by simp); refine start_ (n := 5) (S := fun w' => w'.cell? ⟨w5.heap.size, 0, none⟩ = some (.int .i64 t0) ∧ w'.cell? ⟨w5.heap.size, 1, none⟩ = some (.int .i64 s0) ∧ w'.cell? ⟨w5.heap.size, 2, none⟩ = some (.slice Ax402 l02.length cx402) ∧ w'.cell? ⟨w5.heap.size, 3, none⟩ = some (.slice Ax403 l03.length cx403) ∧ w'.cell? ⟨w.heap.size, 0, none⟩ = some (.int .i64 t0) ∧ w'.cell? ⟨w.heap.size, 1, none⟩ = some (.int .i64 s0) ∧ w'.cell? ⟨w.heap.size, 2, none⟩ = some (.slice A02 l02.length c02) ∧ w'.cell? ⟨w.heap.size, 3, none⟩ = some (.slice A03 l03.length c03)) (ds := []) #[false, false, false, false, false] (by kernel_rfl) rfl rfl (bc8 BX6_w8.out BXp0_w8.out) (fun hHeld => ?_); generalize w7.drew = w8 at *; refine takeA8 0 (some 35) (bl 5 1) hHeld rfl rfl (h := ?_); refine takeA8 1 (some 36) (bl 5 3) hHeld rfl rfl (h := ?_); refine oneA 2 (some 37) (bl 5 7) rfl rfl (fun K hK => ?_); refine goesA Tryd.func36 #[.agg #[.int .i64 t0, .int .i64 s0, .slice A02 l02.length c02, .slice A03 l03.length c03]] rfl (h := ?_); (with_reducible refine (laws_toRelation.calls k t0 s0 _ _ l02 _ _ l03 t0 s0 l02 l03 _ (Kd.C_below HR02.out HB_w8.out) HC02.out (Kd.C_below HR03.out HB_w8.out) HC03.out HT0.out).mono ?_); rintro e w9 ⟨vx602, vx603, rfl, hx602, hx603, hb⟩; obtain ⟨Ax602, cx602, hvx602⟩ := Kd.R_slice hx602; subst hvx602; obtain ⟨Ax603, cx603, hvx603⟩ := Kd.S_slice hx603; subst hvx603; have HZ_w9 := am (show w8.heap.size + 0 ≤ w9.heap.size by have := hb.size; omega); have RIx60_w9 := am (RelOwn.mk_ (base := w.heap.size) HB_w8.out.size hx602 hx603); have HB_w9 := am (below_then HB_w8.out HB_w8.out.size hb); have BXp0_w9 := am (blk_below BXp0_w8.out hb); have RIx20_w9 := am (RIx20_w8.out.below hb); have RIx40_w9 := am (RIx40_w8.out.below hb); have BX6_w9 := am (blk_below BX6_w8.out hb); clear HB_w8 BXp0_w8 RIx20_w8 RIx40_w8 BX6_w8; clear hx602 hx603 hb; refine ⟨_, rfl, ?_⟩; refine hK.out _ _ (bc8 BX6_w9.out BXp0_w9.out) (fun hHeld => ?_); clear hK K; refine normA (h := ?_); refine oneA 3 (some 38) (bl 5 15) rfl rfl (fun K hK => ?_); refine goesA Tryd.func29 #[.agg #[.int .i64 t0, .int .i64 s0, .slice Ax402 l02.length cx402, .slice Ax403 l03.length cx403], .agg #[.int .i64 t0, .int .i64 s0, .slice Ax602 l02.length cx602, .slice Ax603 l03.length cx603]] rfl (h := ?_); (with_reducible refine (laws_eqRelation.calls k t0 s0 _ _ l02 _ _ l03 t0 s0 _ _ l02 _ _ l03 true _ RIx40_w9.out.reads.1 RIx40_w9.out.reads.2.1 RIx40_w9.out.reads.2.2.1 RIx40_w9.out.reads.2.2.2 RIx60_w9.out.reads.1 RIx60_w9.out.reads.2.1 RIx60_w9.out.reads.2.2.1 RIx60_w9.out.reads.2.2.2 HE0.out).mono ?_); rintro e w10 ⟨rfl, hb⟩; have HZ_w10 := am (show w9.heap.size + 0 ≤ w10.heap.size by have := hb.size; omega); have HB_w10 := am (below_then HB_w9.out HB_w9.out.size hb); have BXp0_w10 := am (blk_below BXp0_w9.out hb); have RIx20_w10 := am (RIx20_w9.out.below hb); have RIx40_w10 := am (RIx40_w9.out.below hb); have BX6_w10 := am (blk_below BX6_w9.out hb); have RIx60_w10 := am (RIx60_w9.out.below hb); clear HB_w9 BXp0_w9 RIx20_w9 RIx40_w9 BX6_w9 RIx60_w9; clear hb; refine ⟨_, rfl, ?_⟩; refine hK.out _ _ (bc8 BX6_w10.out BXp0_w10.out) (fun hHeld => ?_); clear hK K; refine normA (h := ?_); refine pureA 4 (some 39) (bl 5 31) rfl rfl (h := ?_); refine done_ (by kernel_rfl) ?_; clear hHeld; clear RIx20_w10; clear RIx60_w10; go_wp2; go_ret; exact ⟨rfl, HB_w10.out⟩
theorem laws_FnExactCountAll.exit0 (k : Nat) (t0 s0 : Int) (A02 : Option Addr) (c02 : Nat) (l02 : List Bool) (A03 : Option Addr) (c03 : Nat) (l03 : List (List Int)) (w : World) (htab : TabOK w) (hr02 : Kd.C Kd.bool w A02 l02.length l02) (hc02 : l02.length ≤ c02) (hr03 : Kd.C (Kd.slice 2 (Kd.int .i64)) w A03 l03.length l03) (hc03 : l03.length ≤ c03) (z1 : Int) (hz1 : laws_szRelation.f k t0 s0 l02 l03 1048576 = some z1)  (hsz1 : z1 < 0) :
  Calls Tryd.prog 10 #[.agg #[.int .i64 t0, .int .i64 s0, .slice A02 l02.length c02, .slice A03 l03.length c03]] w fun e w' => e = .returned (.bool true) ∧ Below w.heap.size w w' := by
 have HR02 := am hr02; have HC02 := am hc02; have HR03 := am hr03; have HC03 := am hc03; have HZ1 := am hz1; have HSZ1 := am hsz1; have HT := am htab; clear hr02 hc02 hr03 hc03 hz1 hsz1 htab; have HB_w := am (Below.refl w.heap.size w); go_enter Tryd.func10, Tryd.ntmps10
 go_wp2_with (fail)
 have HB_w1 := am (below_alloc (Below.refl w.heap.size w) (.cells #[.int .i64 t0, .int .i64 s0, .slice A02 l02.length c02, .slice A03 l03.length c03] 46)); have BXp0_w1 : Aside0 ((((w.alloc (.cells #[.int .i64 t0, .int .i64 s0, .slice A02 l02.length c02, .slice A03 l03.length c03] 46))).heap)[w.heap.size]? = some (.cells #[.int .i64 t0, .int .i64 s0, .slice A02 l02.length c02, .slice A03 l03.length c03] 46 (0, 0))) := am (by have q_ := (blk_new w (.cells #[.int .i64 t0, .int .i64 s0, .slice A02 l02.length c02, .slice A03 l03.length c03] 46)); simpa using q_); have HZ_w1 := am (show w.heap.size + 1 ≤ ((w.alloc (.cells #[.int .i64 t0, .int .i64 s0, .slice A02 l02.length c02, .slice A03 l03.length c03] 46))).heap.size by simp); generalize (w.alloc (.cells #[.int .i64 t0, .int .i64 s0, .slice A02 l02.length c02, .slice A03 l03.length c03] 46)) = w1 at *; (with_reducible refine (laws_szRelation.calls k t0 s0 _ _ l02 _ _ l03 1048576 z1 _ (Kd.C_below HR02.out HB_w1.out) HC02.out (Kd.C_below HR03.out HB_w1.out) HC03.out HZ1.out).mono ?_); rintro e w2 ⟨rfl, hb⟩; have HZ_w2 := am (show w1.heap.size + 0 ≤ w2.heap.size by have := hb.size; omega); have HB_w2 := am (below_then HB_w1.out HB_w1.out.size hb); have BXp0_w2 := am (blk_below BXp0_w1.out hb); clear HB_w1 BXp0_w1; clear hb; have hx_ : decide (z1 < 0) = true := decide_eq_true (by have q_ := HSZ1.out; omega); go_wp2; go_ret; exact ⟨rfl, HB_w2.out⟩
theorem laws_FnExactCountAll.calls (k : Nat) (t0 s0 : Int) (A02 : Option Addr) (c02 : Nat) (l02 : List Bool) (A03 : Option Addr) (c03 : Nat) (l03 : List (List Int)) (w : World) (htab : TabOK w) (hr02 : Kd.C Kd.bool w A02 l02.length l02) (hc02 : l02.length ≤ c02) (hr03 : Kd.C (Kd.slice 2 (Kd.int .i64)) w A03 l03.length l03) (hc03 : l03.length ≤ c03) (h : laws_FnExactCountAll.f k t0 s0 l02 l03 = some true) :
  Calls Tryd.prog 10 #[.agg #[.int .i64 t0, .int .i64 s0, .slice A02 l02.length c02, .slice A03 l03.length c03]] w fun e w' => e = .returned (.bool true) ∧ Below w.heap.size w w' := by
 unfold laws_FnExactCountAll.f at h; obtain ⟨z1, hz1, h⟩ := oB h; by_cases hsz1 : z1 < 0
 case pos => exact laws_FnExactCountAll.exit0 k t0 s0 A02 c02 l02 A03 c03 l03 w htab hr02 hc02 hr03 hc03 z1 hz1  hsz1
 rw [if_neg hsz1] at h; by_cases ht0 : laws_toRelation.f k t0 s0 l02 l03 = some (t0, s0, l02, l03)
 case neg => rw [if_neg ht0] at h; cases h
 rw [if_pos ht0] at h; obtain ⟨⟨r0, r1⟩, hS, h⟩ := oB h; dsimp only at h; by_cases hI : impl_CountAll.f k t0 s0 l02 l03 = some (r0, r1)
 case neg => rw [if_neg hI] at h; cases h
 rw [if_pos hI] at h; by_cases he0 : laws_eqRelation.f k t0 s0 l02 l03 t0 s0 l02 l03 = some true
 case neg => rw [if_neg he0] at h; cases h
 rw [if_pos he0] at h; exact laws_FnExactCountAll.main k t0 s0 A02 c02 l02 A03 c03 l03 w htab hr02 hc02 hr03 hc03 z1 r0 r1 hz1 ht0 hS hI he0 hsz1
def cellsOfD : DataW Unit → Array Value
 | .agg l => (l.map fun d => match d with | .lit x => x.value | _ => .bool false).toArray
 | _ => #[]
noncomputable def layAt (w : World) (g : Nat) (d : DataW Unit) : World := { w with heap := w.heap.modify g fun
 | .cells _ t frozen => .cells (cellsOfD d) t frozen
 | o => o }
noncomputable def laidWorld (os : Os) : World :=
 layAt (layAt (layAt (World.holding Tryd.prog os ⟨#[], #[], []⟩) 6 Rows.laid_math_bits_deBruijn32tab) 7 Rows.laid_math_bits_deBruijn64tab) 3 Rows.laid_internal_strconv_uint64pow10
def laid3 : List (String × DataW Unit) := [("math/bits.deBruijn32tab", Rows.laid_math_bits_deBruijn32tab), ("math/bits.deBruijn64tab", Rows.laid_math_bits_deBruijn64tab), ("internal/strconv.uint64pow10", Rows.laid_internal_strconv_uint64pow10)]
theorem laidWorld_met (os : Os) (args : Array Value) : laidMet Tryd.prog laid3 ((laidWorld os).forCall (fun _ _ => 0) ⟨#[], args, []⟩).memory :=
 laidMet_of_run (ps := (List.range 32).map (MemPlace.cell 6) ++ (List.range 64).map (MemPlace.cell 7) ++ (List.range 20).map (MemPlace.cell 3)) 8 (by kernel_rfl) (by kernel_rfl) (by kernel_rfl)
theorem pow_data : (Rows.laid_internal_strconv_uint64pow10 : DataW Unit) = Lib.tabData .u64 Lib.pow10Tab := by kernel_rfl
theorem tab_of_laid {W : World} (h : laidMet Tryd.prog laid3 W) : Lib.TabIs Tryd.prog W "internal/strconv.uint64pow10" .u64 Lib.pow10Tab := by
 obtain ⟨ps, ⟨_, _, _, _, _, _, _, _, _, _, ⟨_, _, _, _, _, _, _, _, _, _, ⟨g', t', cs, fuel, p, q, hg', ht', hvar, hd, _, _⟩, _⟩, _⟩, _⟩ := h
 obtain rfl := Option.some.inj ((show Tryd.prog.globalNamed "internal/strconv.uint64pow10" = some 3 by kernel_rfl).symm.trans hg')
 obtain rfl := Option.some.inj ((show (Tryd.prog.globals[3]?).map (·.type) = some 235 by kernel_rfl).symm.trans ht'); rw [pow_data] at hd; unfold Lib.TabIs; rw [hvar, ← Lib.cells_of_tab Tryd.underlying235 Tryd.underlying226 (by kernel_rfl) (by kernel_rfl) hd]
theorem tabOK_of {W : World} (h : laidMet Tryd.prog laid3 W) : TabOK W := Lib.tabBelow_of_tabIs (tab_of_laid h)
open Go.ChangeShapes Go.WideShapes Go.ChangeAt Go.Deep Go.Joins
/-- The rows of a relation, as a law's world reads them. -/
def RelIn (W : World) (A2 : Option Addr) (c2 : Nat) (l2 : List Bool) (A3 : Option Addr) (c3 : Nat) (l3 : List (List Int)) : Prop :=
 Kd.C Kd.bool W A2 l2.length l2 ∧ l2.length ≤ c2 ∧ Kd.C (Kd.slice 2 (Kd.int .i64)) W A3 l3.length l3 ∧ l3.length ≤ c3 ∧ l2.length ≤ 9223372036854775807 ∧ l3.length ≤ 9223372036854775807 ∧ (∀ x ∈ l3, x.length ≤ 9223372036854775807) ∧ ∀ x ∈ l3, ∀ n ∈ x, (Lit.int .i64 n).wf = true
theorem open_bool_row {H : Type} {enc : TypeId × Value → H} {W : World} {base : Nat} {held : Bool} {fuel : Nat} {v : Value} {x : DataW H × List MemPlace} (h : DataW.trod enc Tryd.prog W base (fun _ => true) held fuel 35 [v] = some x) :
  ∃ (A : Option Addr) (c : Nat) (l : List Bool), v = .slice A l.length c ∧ Kd.C Kd.bool W A l.length l ∧ l.length ≤ c ∧ l.length ≤ 9223372036854775807 := by
 rcases open_bools Tryd.underlying35 Tryd.underlying4 (by kernel_rfl) h with ⟨hcs, _⟩ | ⟨a, len, cap, B, hcs, _, hl, hm, _, hcell⟩
 ·simp at hcs; exact ⟨none, 0, [], by simpa using hcs, ⟨rfl, by simp, fun h => absurd h (by simp)⟩, by simp, by simp⟩
 ·simp at hcs; have hm' : cap ≤ 9223372036854775807 := hm; refine ⟨some a, cap, (List.range len).map B, by simpa using hcs, ⟨rfl, by simp; omega, fun _ => ⟨a, rfl, fun j p hj => ?_⟩⟩, by simpa using hl, by simp; omega⟩; have hjl := (List.getElem?_eq_some_iff.1 hj).1; simp at hjl; refine ⟨[.bool p], rfl, rfl, fun i u hu => ?_⟩
  have hi : i = 0 := by
   have := (List.getElem?_eq_some_iff.1 hu).1; simp at this; omega
  subst hi; simp at hu hj; obtain ⟨_, hj⟩ := hj; subst hu; rw [show j * Kd.bool.sz + 0 = j by simp [show Kd.bool.sz = 1 from rfl], hcell j (by omega)]
  simp_all
theorem open_int_row {W : World} {A : Option Addr} {L C : Nat} {Z : List Int} (hL : L ≤ C) (hC : C ≤ maxLen) (hZ : Z.length = C) (hN : A = none → C = 0) (hA : ∀ a', A = some a' → ∀ c, c < C → W.cell? (a'.add c) = some (.int .i64 (Z.getD c 0))) :
  Kd.C (Kd.int .i64) W A (Z.take L).length (Z.take L) := by
 have hC' : C ≤ 9223372036854775807 := hC; refine ⟨rfl, by simp; omega, fun h => ?_⟩
 cases A with
 | none => have := hN rfl; simp at h; omega
 | some a =>
  refine ⟨a, rfl, fun j p hj => ?_⟩; have hjl := (List.getElem?_eq_some_iff.1 hj).1; simp at hjl; refine ⟨[.int .i64 p], rfl, rfl, fun i u hu => ?_⟩
  have hi : i = 0 := by
   have := (List.getElem?_eq_some_iff.1 hu).1; simp at this; omega
  subst hi; simp at hu; subst hu; rw [show j * (Kd.int .i64).sz + 0 = j by simp [show (Kd.int .i64).sz = 1 from rfl], hA a rfl j (by omega)]; rw [List.getElem?_take] at hj; rw [if_pos (by omega)] at hj; simp [List.getD_eq_getElem?_getD, hj]
theorem open_rows {H : Type} {enc : TypeId × Value → H} {W : World} {base : Nat} {held : Bool} {fuel : Nat} {v : Value} {x : DataW H × List MemPlace} (h : DataW.trod enc Tryd.prog W base (fun _ => true) held fuel 36 [v] = some x) :
  ∃ (A : Option Addr) (c : Nat) (l : List (List Int)), v = .slice A l.length c ∧ Kd.C (Kd.slice 2 (Kd.int .i64)) W A l.length l ∧ l.length ≤ c ∧ l.length ≤ 9223372036854775807 ∧ (∀ x ∈ l, x.length ≤ 9223372036854775807) ∧ ∀ x ∈ l, ∀ n ∈ x, (Lit.int .i64 n).wf = true := by
 rcases open_int_rows Tryd.underlying36 Tryd.underlying25 Tryd.underlying2 (by kernel_rfl) (by kernel_rfl) h with ⟨hcs, _⟩ | ⟨a, len, cap, A, L, C, Z, hcs, _, hl, hm, _, hr⟩
 ·simp at hcs; exact ⟨none, 0, [], by simpa using hcs, ⟨rfl, by simp, fun h => absurd h (by simp)⟩, by simp, by simp, by simp, by simp⟩
 ·simp at hcs; have hm' : cap ≤ 9223372036854775807 := hm; refine ⟨some a, cap, (List.range len).map fun r => (Z r).take (L r), by simpa using hcs, ⟨rfl, by simp; omega, fun _ => ⟨a, rfl, fun j p hj => ?_⟩⟩, by simpa using hl, by simp; omega, ?_, ?_⟩
  ·have hjl := (List.getElem?_eq_some_iff.1 hj).1; simp at hjl; obtain ⟨g1, g2, g3, g4, g5, g6, g7⟩ := hr j (by omega); simp at hj; obtain ⟨_, hj⟩ := hj; (have ep : p = (Z j).take (L j) := by simp_all); subst ep; (have el : ((Z j).take (L j)).length = L j := by simp; omega); refine ⟨[.slice (A j) ((Z j).take (L j)).length (C j)], rfl, ⟨A j, C j, rfl, by omega, open_int_row g2 g3 g4 g6 fun a' ha => (g7 a' ha).2⟩, fun i u hu => ?_⟩
   have hi : i = 0 := by
    have := (List.getElem?_eq_some_iff.1 hu).1; simp at this; omega
   subst hi; rw [List.getElem?_cons_zero] at hu; injection hu with hu; subst hu; rw [show j * (Kd.slice 2 (Kd.int .i64)).sz + 0 = j by simp [show (Kd.slice 2 (Kd.int .i64)).sz = 1 from rfl], g1, el]
  ·intro y hy; obtain ⟨r, hrm, rfl⟩ := List.mem_map.1 hy; obtain ⟨g1, g2, g3, g4, g5, g6, g7⟩ := hr r (by have := List.mem_range.1 hrm; omega); have g3' : C r ≤ 9223372036854775807 := g3; simp; omega
  ·intro y hy n hn; obtain ⟨r, hrm, rfl⟩ := List.mem_map.1 hy; obtain ⟨g1, g2, g3, g4, g5, g6, g7⟩ := hr r (by have := List.mem_range.1 hrm; omega); exact g5 n (List.mem_of_mem_take hn)
theorem open_rel {H : Type} {enc : TypeId × Value → H} {W : World} {base : Nat} {held : Bool} {r : Reach} {b0 : Nat} {v : Value} {d : DataW H} {p : List MemPlace} (hv : Value.okWide Tryd.prog W r b0 46 v) (h : DataW.Trod enc Tryd.prog W base (fun _ => true) held 46 v d p) :
  ∃ (t s : Int) (A2 : Option Addr) (c2 : Nat) (l2 : List Bool) (A3 : Option Addr) (c3 : Nat) (l3 : List (List Int)), v = .agg #[.int .i64 t, .int .i64 s, .slice A2 l2.length c2, .slice A3 l3.length c3] ∧ (Lit.int .i64 t).wf = true ∧ (Lit.int .i64 s).wf = true ∧ RelIn W A2 c2 l2 A3 c3 l3 := by
 obtain ⟨v0, v1, v2, v3, y0, y1, y2, y3, n, rfl, _, _, h0, h1, h2, h3⟩ := open_agg4 Tryd.underlying46 (by kernel_rfl) (by kernel_rfl) hv h; obtain ⟨t, e0, _, w0⟩ := DataW.trod_int Tryd.underlying2 h0; obtain ⟨s, e1, _, w1⟩ := DataW.trod_int Tryd.underlying2 h1; injection e0 with e0; injection e1 with e1; subst e0; subst e1; obtain ⟨A2, c2, l2, rfl, g1, g2, g3⟩ := open_bool_row h2; obtain ⟨A3, c3, l3, rfl, k1, k2, k3, k4, k5⟩ := open_rows h3; exact ⟨t, s, A2, c2, l2, A3, c3, l3, rfl, w0, w1, g1, g2, k1, k2, g3, k3, k4, k5⟩
def lngR (W : Nat) (pads : List Int) (ac : List Bool) (ns : List (List Int)) : Int × Int → List Int → Bool
 | x, [] => decide (0 ≤ x.2) && rdOf false ac x.1
 | x, c :: w => decide (0 ≤ c) && (decide (c < (W : Int)) && (decide (0 ≤ x.2) && (decide (bits .andNot .i64 x.2 (rd pads c) = 0) && lngR W pads ac ns (stp ns x.1 c, rd pads c) w)))
theorem lngR_dead (W : Nat) (pads : List Int) (ac : List Bool) (ns : List (List Int)) (q : Int) (w : List Int) : lngR W pads ac ns (q, -1) w = false := by
 cases w <;> simp [lngR]
theorem rd_range {l : List Int} {p : Int → Prop} (h : ∀ x ∈ l, p x) {i : Int} (h0 : 0 ≤ i) (h1 : i < (l.length : Int)) : p (rd l i) := by
 (have : i.toNat < l.length := by omega); unfold rd; rw [List.getD_eq_getElem?_getD, List.getElem?_eq_getElem this]; exact h _ (List.getElem_mem this)
theorem places_law {W n : Nat} {pads : List Int} {ac : List Bool} {ns : List (List Int)} (hT : TableOK W n ns) (hn : ac.length = n) (hp : pads.length = W) (hp8 : ∀ x ∈ pads, 0 ≤ x ∧ x < 8) (hn2 : n ≤ 100000) {start : Int} (s0 : 0 ≤ start) (s1 : start < (n : Int)) {f : Nat} (hf : 1900002 ≤ f) :
  ∃ r, growL good2 (accT ac) (nextT pads ns) W f [(start, 0)] [] [] = some r ∧ TableOK W r.1.length r.2 ∧ 0 < r.1.length ∧ r.1.length ≤ 1900000 ∧ lng W r.1 r.2 0 = lngR W pads ac ns (start, 0) := by
 have hS : ∀ k c, (k = ((0 : Int), (-1 : Int)) ∨ (0 ≤ k.1 ∧ k.1 < (n : Int) ∧ 0 ≤ k.2 ∧ k.2 < 8)) → 0 ≤ c → c < (W : Int) → ∃ t, nextT pads ns k c = some t ∧ (t = ((0 : Int), (-1 : Int)) ∨ (0 ≤ t.1 ∧ t.1 < (n : Int) ∧ 0 ≤ t.2 ∧ t.2 < 8)) ∧ ∀ w, lngR W pads ac ns k (c :: w) = lngR W pads ac ns t w := by
  intro k c hk c0 c1
  rcases hk with rfl | ⟨k0, k1, k2, k3⟩
  ·exact ⟨(0, -1), by unfold nextT; rw [if_pos (by show (-1 : Int) < 0; omega)], .inl rfl, fun w => by rw [lngR_dead, lngR_dead]⟩
  ·have hpc := rd_range hp8 c0 (by omega); unfold nextT; rw [if_neg (by omega), at1_in c0 (by omega)]; simp only [Option.bind_some]; rw [show rdOf 0 pads c = rd pads c from rfl]; by_cases hb : bits .andNot .i64 k.2 (rd pads c) = 0
   ·rw [if_pos hb]; have hst := hT.stpd k0 k1 c0 c1; have hrow := hT.row k0 k1; rw [at1_in k0 (by rw [hT.1]; exact k1)]; simp only [Option.bind_some]; rw [show rdOf [] ns k.1 = ns.getD k.1.toNat [] from rfl, at1_in c0 (by rw [(hT.2 _ hrow).1]; exact c1)]; simp only [Option.bind_some]; refine ⟨_, rfl, .inr ⟨hst.1, hst.2, hpc.1, hpc.2⟩, fun w => ?_⟩; simp only [lngR, c0, c1, k2, hb, decide_true, Bool.true_and]; rfl
   ·rw [if_neg hb]; refine ⟨_, rfl, .inl rfl, fun w => ?_⟩; rw [lngR_dead]; simp [lngR, hb]
 have hA : ∀ k : Int × Int, (k = ((0 : Int), (-1 : Int)) ∨ (0 ≤ k.1 ∧ k.1 < (n : Int) ∧ 0 ≤ k.2 ∧ k.2 < 8)) → ∃ b, accT ac k = some b ∧ lngR W pads ac ns k [] = b := by
  intro k hk
  rcases hk with rfl | ⟨k0, k1, k2, k3⟩
  ·exact ⟨false, by unfold accT; rw [if_neg (by show ¬ (0 : Int) ≤ -1; omega)], lngR_dead _ _ _ _ _ _⟩
  ·exact ⟨rdOf false ac k.1, by unfold accT; rw [if_pos k2, at1_in k0 (by omega)], by simp [lngR, k2]⟩
 let U : List (Int × Int) := ((0 : Int), (-1 : Int)) :: (List.range n).flatMap fun (a : Nat) => (List.range 8).map fun (b : Nat) => ((a : Int), (b : Int))
 have hUl : U.length = n * 8 + 1 := by
  simp only [U, List.length_cons, List.length_flatMap, List.length_map, List.length_range, List.map_const', List.sum_replicate_nat]
 have hU : ∀ k : Int × Int, k ∈ U ↔ (k = ((0 : Int), (-1 : Int)) ∨ (0 ≤ k.1 ∧ k.1 < (n : Int) ∧ 0 ≤ k.2 ∧ k.2 < 8)) := by
  intro k; simp only [U, List.mem_cons, List.mem_flatMap, List.mem_range, List.mem_map]; constructor
  ·rintro (h | ⟨a, ha, b, hb, rfl⟩)
   ·exact .inl h
   ·exact .inr ⟨by simp, by simp; omega, by simp, by simp; omega⟩
  ·rintro (h | ⟨h0, h1, h2, h3⟩)
   ·exact .inl h
   ·exact .inr ⟨k.1.toNat, by omega, k.2.toNat, by omega, Prod.ext (by simp; omega) (by simp; omega)⟩
 have hst : (start, (0 : Int)) ∈ U := (hU _).2 (.inr ⟨s0, s1, by simp, by simp⟩)
 have total : ∃ r, growL good2 (accT ac) (nextT pads ns) W f [(start, 0)] [] [] = some r := by
  refine growL_some (U := U) (by rw [hUl]; omega) (fun k c hk c0 c1 => ?_) (fun k hk => ?_) f _ [] [] (by simp) (by intro k hk; simp at hk; subst hk; exact hst) (by simp) (by rw [hUl]; simp; omega)
  ·obtain ⟨t, ht, hSt, _⟩ := hS k c ((hU k).1 hk) c0 c1; refine ⟨t, ht, ?_, (hU t).2 hSt⟩
   rcases hSt with rfl | ⟨t0, t1, t2, t3⟩
   ·decide
   ·simp only [good2, inI64, Bool.and_eq_true, decide_eq_true_eq]; omega
  ·obtain ⟨b, hb, _⟩ := hA k ((hU k).1 hk); exact ⟨b, hb⟩
 obtain ⟨r, hr⟩ := total
 have ht := growL_table (S := fun k => k = ((0 : Int), (-1 : Int)) ∨ (0 ≤ k.1 ∧ k.1 < (n : Int) ∧ 0 ≤ k.2 ∧ k.2 < 8)) (Λ := lngR W pads ac ns)
  (fun k c t hk c0 c1 ht => by obtain ⟨t', ht', h1, h2⟩ := hS k c hk c0 c1; rw [ht] at ht'; obtain rfl := Option.some.inj ht'; exact ⟨h1, h2⟩)
  (fun k b hk hb => by obtain ⟨b', hb', h⟩ := hA k hk; rw [hb] at hb'; obtain rfl := Option.some.inj hb'; exact h)
  (fun k c w hc => by
   simp only [lngR]; by_cases c0 : 0 ≤ c
   ·simp [show ¬ c < (W : Int) from fun h => hc ⟨c0, h⟩]
   ·simp [c0])
  (.inr ⟨s0, s1, by simp, by simp⟩) hr
 exact ⟨r, hr, ht⟩
/-- 'tidy' makes the tidy table of the right language. -/
theorem tidy_law {W n : Nat} {pads : List Int} {ac : List Bool} {ns : List (List Int)} (hT : TableOK W n ns) (hn : ac.length = n) (hp : pads.length = W) (hp8 : ∀ x ∈ pads, 0 ≤ x ∧ x < 8) (hn2 : n ≤ 100000) (hW : W ≤ 1000) {start : Int} (s0 : 0 ≤ start) (s1 : start < (n : Int)) {f : Nat} (hf : 1900002 ≤ f) :
  ∃ p r, growL good2 (accT ac) (nextT pads ns) W f [(start, 0)] [] [] = some p ∧ (p.1.length ≤ 1900000 ∧ p.2.length = p.1.length ∧ ∀ row ∈ p.2, row.length ≤ 1000) ∧ mergedF W f 0 p.1 p.2 = some r ∧ tidyD W f (lngR W pads ac ns (start, 0)) = some r := by
 obtain ⟨p, hp1, hT2, hpos, hle, hl⟩ := places_law hT hn hp hp8 hn2 s0 s1 hf; obtain ⟨r, hr, hd⟩ := merged_law hT2 rfl hle (start := 0) (by omega) (by omega) (f := f) (by omega); exact ⟨p, r, hp1, ⟨hle, hT2.1, fun row hrow => by rw [(hT2.2 row hrow).1]; exact hW⟩, hr, by rw [← hl]; exact hd⟩
section
variable {W n m : Nat} {ac : List Bool} {ns : List (List Int)} {cl : List Int}
/-- The numbers of the classes that were met. -/
structure NuOK (n m : Nat) (cl : List Int) (nu l : List Int) : Prop where
 len : nu.length = m
 rng : ∀ s ∈ l, 0 ≤ s ∧ s < (n : Int)
 nod : (l.map (rd cl)).Nodup
 num : ∀ v : Int, 0 ≤ v → v < (m : Int) → (rd nu v < 0 ∧ ∀ s ∈ l, rd cl s ≠ v) ∨ ∃ (i : Nat) (s : Int), rd nu v = (i : Int) ∧ l[i]? = some s ∧ rd cl s = v
theorem rd_set_other {l : List Int} {i j x : Int} (h0 : 0 ≤ i) (h1 : 0 ≤ j) (h : i ≠ j) : rd (l.set i.toNat x) j = rd l j := by
 unfold rd; rw [List.getD_eq_getElem?_getD, List.getD_eq_getElem?_getD, List.getElem?_set, if_neg (by omega)]
theorem NuOK.push {nu l : List Int} (h : NuOK n m cl nu l) {t : Int} (t0 : 0 ≤ t) (t1 : t < (n : Int)) (c0 : 0 ≤ rd cl t) (c1 : rd cl t < (m : Int)) (hx : rd nu (rd cl t) < 0) : NuOK n m cl (nu.set (rd cl t).toNat (l.length : Int)) (l ++ [t]) := by
 have hnew : ∀ s ∈ l, rd cl s ≠ rd cl t := by
  rcases h.num _ c0 c1 with ⟨_, h2⟩ | ⟨i, s, h2, _⟩
  ·exact h2
  ·omega
 refine ⟨by simp [h.len], ?_, ?_, ?_⟩
 ·intro s hs
  rcases List.mem_append.1 hs with hs | hs
  ·exact h.rng s hs
  ·simp at hs; subst hs; exact ⟨t0, t1⟩
 ·rw [List.map_append]; refine List.nodup_append.2 ⟨h.nod, by simp, fun a ha b hb => ?_⟩; simp at hb; subst hb; obtain ⟨s, hs, rfl⟩ := List.mem_map.1 ha; exact hnew s hs
 ·intro v v0 v1; by_cases e : rd cl t = v
  ·subst e; right; exact ⟨l.length, t, rd_set_same c0 (by rw [h.len]; exact c1), by simp, rfl⟩
  ·rw [rd_set_other c0 v0 e]
   rcases h.num v v0 v1 with ⟨h2, h3⟩ | ⟨i, s, h2, h3, h4⟩
   ·left; refine ⟨h2, fun s hs => ?_⟩
    rcases List.mem_append.1 hs with hs | hs
    ·exact h3 s hs
    ·simp at hs; subst hs; exact e
   ·right; exact ⟨i, s, h2, getE_app h3, h4⟩
open Classical in
theorem trow_grow (hE : ClassEq W n ac ns (rd cl)) (hcl : cl.length = n) (hcm : ∀ i, 0 ≤ i → i < (n : Int) → 0 ≤ rd cl i ∧ rd cl i < (m : Int)) {nx : Int → Option (List Int → Bool)} :
  ∀ (ts : List Int) (c : Int) (nu l row : List Int) (L1 : List (List Int → Bool)) (row1 : List Int), (∀ t ∈ ts, 0 ≤ t ∧ t < (n : Int)) → (∀ j : Nat, ∀ t, ts[j]? = some t → nx (c + j) = some (lng W ac ns t)) → NuOK n m cl nu l →
   growRow (fun _ => true) nx ts.length c (l.map (lng W ac ns)) row = some (L1, row1) → ∃ nu1 l1, trowF cl ts nu l row = some (nu1, l1, row1) ∧ L1 = l1.map (lng W ac ns) ∧ NuOK n m cl nu1 l1 := by
 intro ts
 induction ts with
 | nil =>
  intro c nu l row L1 row1 _ _ hN h; simp only [List.length_nil, growRow, Option.some.injEq, Prod.mk.injEq] at h; obtain ⟨rfl, rfl⟩ := h; exact ⟨nu, l, rfl, rfl, hN⟩
 | cons t ts ih =>
  intro c nu l row L1 row1 ht hnx hN h; obtain ⟨t0, t1⟩ := ht t (by simp); obtain ⟨c0, c1⟩ := hcm t t0 t1; have hn0 := hnx 0 t (by simp); rw [show c + ((0 : Nat) : Int) = c by omega] at hn0; simp only [List.length_cons, growRow, hn0, Option.bind_some, if_true] at h
  have hnx' : ∀ j : Nat, ∀ t', ts[j]? = some t' → nx (c + 1 + j) = some (lng W ac ns t') := by
   intro j t' hj; have := hnx (j + 1) t' (by simpa using hj); rw [show c + 1 + (j : Int) = c + ((j + 1 : Nat) : Int) by omega]; exact this
  rw [trowF, at1_in t0 (by omega)]; simp only [Option.bind_some]; rw [show rdOf 0 cl t = rd cl t from rfl, at1_in c0 (by rw [hN.len]; exact c1)]; simp only [Option.bind_some]; rw [show rdOf 0 nu (rd cl t) = rd nu (rd cl t) from rfl]
  rcases hN.num _ c0 c1 with ⟨h2, h3⟩ | ⟨i, s, h2, h3, h4⟩
  ·rw [if_pos h2]
   have hmem : lng W ac ns t ∉ l.map (lng W ac ns) := by
    intro hm; obtain ⟨s, hs, he⟩ := List.mem_map.1 hm; obtain ⟨s0, s1⟩ := hN.rng s hs; exact h3 s hs ((hE s t s0 s1 t0 t1).2 he)
   rw [if_neg hmem, List.length_map] at h
   split at h
   ·next hlt =>
    rw [if_pos hlt]; have hN2 := NuOK.push hN t0 t1 c0 c1 h2; exact ih (c + 1) _ (l ++ [t]) _ L1 row1 (fun t' ht' => ht t' (by simp [ht'])) hnx' hN2 (by rw [List.map_append]; exact h)
   ·cases h
  ·rw [if_neg (by omega)]; obtain ⟨s0, s1⟩ := hN.rng s (List.mem_of_getElem? h3); have hls : lng W ac ns s = lng W ac ns t := (hE s t s0 s1 t0 t1).1 h4; have hi := (List.getElem?_eq_some_iff.1 h3).1; (have hmem : lng W ac ns t ∈ l.map (lng W ac ns) := by rw [← hls]; exact List.mem_map_of_mem (List.mem_of_getElem? h3)); rw [if_pos hmem] at h
   have hnodL : (l.map (lng W ac ns)).Nodup := by
    have := hN.nod
    rw [List.Nodup, List.pairwise_map] at this ⊢
    refine List.Pairwise.imp_of_mem ?_ this; intro a b ha hb hab e; obtain ⟨a0, a1⟩ := hN.rng a ha; obtain ⟨b0, b1⟩ := hN.rng b hb; exact hab ((hE a b a0 a1 b0 b1).2 e)
   have hix : (l.map (lng W ac ns)).idxOf (lng W ac ns t) = i := by
    have hi2 : i < (l.map (lng W ac ns)).length := by simpa using hi
    have hget : (l.map (lng W ac ns))[i] = lng W ac ns t := by
     rw [List.getElem_map, ← hls]
     congr 1
     exact (List.getElem?_eq_some_iff.1 h3).2
    rw [← hget, hnodL.idxOf_getElem]
   rw [hix] at h; rw [h2]; exact ih (c + 1) nu l _ L1 row1 (fun t' ht' => ht t' (by simp [ht'])) hnx' hN h
open Classical in
theorem tmain_grow (hT : TableOK W n ns) (hn : ac.length = n) (hE : ClassEq W n ac ns (rd cl)) (hcl : cl.length = n) (hcm : ∀ i, 0 ≤ i → i < (n : Int) → 0 ≤ rd cl i ∧ rd cl i < (m : Int)) :
  ∀ (f : Nat) (nu l : List Int) (bs : List Bool) (rs : List (List Int)) (r : List Bool × List (List Int)), NuOK n m cl nu l → growL (fun _ => true) (fun L => some (L [])) (fun L c => some fun w => L (c :: w)) W f (l.map (lng W ac ns)) bs rs = some r → tmainF cl ac ns f nu l bs rs = some r := by
 intro f
 induction f with
 | zero => intro nu l bs rs r _ h; simp [growL] at h
 | succ f ih =>
  intro nu l bs rs r hN h; simp only [growL] at h; rw [List.getElem?_map] at h; rw [tmainF]
  cases e : l[bs.length]? with
  | none => rw [e] at h; simpa using h
  | some s =>
   rw [e] at h
   simp only [Option.map_some, Option.bind_some] at h ⊢
   obtain ⟨s0, s1⟩ := hN.rng s (List.mem_of_getElem? e); rw [at1_in s0 (by rw [hT.1]; exact s1)]; simp only [Option.bind_some]; rw [at1_in s0 (by omega)]; simp only [Option.bind_some]; obtain ⟨⟨L1, row1⟩, hp, h⟩ := oB h; have hrow := hT.row s0 s1; obtain ⟨hrl, hrr⟩ := hT.2 _ hrow
   obtain ⟨nu1, l1, h1, rfl, hN1⟩ := trow_grow (m := m) (nx := fun c => some fun w => lng W ac ns s (c :: w)) hE hcl hcm (rdOf [] ns s) 0 nu l [] L1 row1 (fun t ht => hrr t ht) (fun j t hj => by
    have hjl := (List.getElem?_eq_some_iff.1 hj).1
    have e2 : stp ns s (j : Int) = t := by
     have : (ns.getD s.toNat [])[j]? = some t := hj; simp only [stp, rd, Int.toNat_natCast]; rw [List.getD_eq_getElem?_getD (l := ns.getD s.toNat []), this]; rfl
    rw [show (0 : Int) + (j : Int) = (j : Int) by omega]; rw [← e2]
    have hjW : (j : Int) < (W : Int) := by
     have : (rdOf [] ns s).length = W := hrl; omega
    show some (fun w => lng W ac ns s ((j : Int) :: w)) = some (lng W ac ns (stp ns s (j : Int)))
    congr 1
    funext w
    simp [lng, hjW]) hN (by rw [show (rdOf [] ns s).length = W from hrl]; exact hp)
   rw [h1]; simp only [Option.bind_some]; exact ih nu1 l1 _ _ r hN1 h
/-- .. as the tidy table of the first state's language. -/
theorem tmain_law (hT : TableOK W n ns) (hn : ac.length = n) (h1 : n ≤ 1900000) (h0 : 0 < n) (hE : ClassEq W n ac ns (rd cl)) (hcl : cl.length = n) (hcm : ∀ i, 0 ≤ i → i < (n : Int) → 0 ≤ rd cl i ∧ rd cl i < (m : Int)) {f : Nat} (hf : n + 2 ≤ f) :
  ∃ r, tmainF cl ac ns f ((List.replicate m (-1)).set (rd cl 0).toNat 0) [0] [] [] = some r ∧ tidyD W f (lng W ac ns 0) = some r := by
 classical
 have total : ∃ r, growL (fun _ => true) (fun L => some (L [])) (fun (L : List Int → Bool) c => some fun w => L (c :: w)) W f [lng W ac ns 0] [] [] = some r := by
  have hUm : ∀ q, 0 ≤ q → q < (n : Int) → lng W ac ns q ∈ (List.range n).map (fun q : Nat => lng W ac ns (q : Int)) := fun q q0 q1 => List.mem_map.2 ⟨q.toNat, List.mem_range.2 (by omega), by rw [show ((q.toNat : Nat) : Int) = q by omega]⟩; refine growL_some (U := (List.range n).map (fun q : Nat => lng W ac ns (q : Int))) (by simpa using h1) (fun k c hk c0 c1 => ?_) (fun k hk => ⟨_, rfl⟩) f _ [] [] (by simp) (by intro k hk; simp at hk; subst hk; exact hUm 0 (by omega) (by omega)) (by simp) (by simp; omega); obtain ⟨q, hq, rfl⟩ := List.mem_map.1 hk; have hq' := List.mem_range.1 hq; have hs := hT.stpd (q := (q : Int)) (by omega) (by omega) c0 c1; refine ⟨_, rfl, rfl, ?_⟩
  have e : (fun w => lng W ac ns (q : Int) (c :: w)) = lng W ac ns (stp ns (q : Int) c) := by
   funext w
   simp [lng, c0, c1]
  rw [e]; exact hUm _ hs.1 hs.2
 obtain ⟨r, hr⟩ := total; have hc0 := hcm 0 (by omega) (by omega); refine ⟨r, tmain_grow hT hn hE hcl hcm f _ [0] [] [] r ?_ (by simpa using hr), hr⟩; refine ⟨by simp, by simp; omega, by simp, fun v v0 v1 => ?_⟩; by_cases e : rd cl 0 = v
 ·right; exact ⟨0, 0, by rw [← e]; exact rd_set_same hc0.1 (by simp; omega), by simp, e⟩
 ·left; rw [rd_set_other hc0.1 v0 e]; refine ⟨?_, by simpa using e⟩
  have : rd (List.replicate m (-1)) v = -1 := by
   (have hv : v.toNat < m := by omega); simp [rd, List.getD_eq_getElem?_getD, hv]
  omega
end
section
variable {W n : Nat} {ac : List Bool} {ns : List (List Int)} {cl : List Int} {t s0 : Int}
def SameC (W : Nat) (ns : List (List Int)) (g : Int → Int) (a b : Int) : Prop := g a = g b ∧ ∀ c, 0 ≤ c → c < (W : Int) → g (stp ns a c) = g (stp ns b c)
theorem SameC.symm {g : Int → Int} {a b : Int} (h : SameC W ns g a b) : SameC W ns g b a := ⟨h.1.symm, fun c c0 c1 => (h.2 c c0 c1).symm⟩
theorem SameC.trans {g : Int → Int} {a b c : Int} (h : SameC W ns g a b) (h2 : SameC W ns g b c) : SameC W ns g a c := ⟨h.1.trans h2.1, fun d c0 c1 => (h.2 d c0 c1).trans (h2.2 d c0 c1)⟩
theorem wrap_small {x : Int} (h0 : 0 ≤ x) (h1 : x ≤ 1000000000) : wrap64 (x + 1) = x + 1 := by unfold wrap64; omega
theorem alike_law (hT : TableOK W n ns) (hcl : cl.length = n) (hW : W ≤ 1000) {a b : Int} (a0 : 0 ≤ a) (a1 : a < (n : Int)) (b0 : 0 ≤ b) (b1 : b < (n : Int)) :
  ∀ (d k : Nat) (c : Int), 0 ≤ c → c + d = (W : Int) → d < k → ∃ B, spec_l01Alike.l0 k cl a b c t s0 ac ns = some (B, t, s0) ∧ (B = true ↔ ∀ c', c ≤ c' → c' < (W : Int) → rd cl (stp ns a c') = rd cl (stp ns b c')) := by
 have hra := hT.2 _ (hT.row a0 a1); have hrb := hT.2 _ (hT.row b0 b1); (have la : ((rd_L5 ns a).length : Int) = (W : Int) := by rw [show rd_L5 ns a = ns.getD a.toNat [] from rfl, hra.1]); (have lb : ((rd_L5 ns b).length : Int) = (W : Int) := by rw [show rd_L5 ns b = ns.getD b.toNat [] from rfl, hrb.1]); intro d
 induction d with
 | zero =>
  intro k c c0 hc hk; obtain ⟨k, rfl⟩ : ∃ m, k = m + 1 := ⟨k - 1, by omega⟩; refine ⟨true, ?_, by simp; intro c' h1 h2; omega⟩; simp only [spec_l01Alike.l0]; rw [if_pos a0, if_pos (by rw [hT.1]; exact a1), if_neg (by rw [la]; omega)]
 | succ d ih =>
  intro k c c0 hc hk; obtain ⟨k, rfl⟩ : ∃ m, k = m + 1 := ⟨k - 1, by omega⟩; have sa := hT.stpd a0 a1 c0 (by omega); have sb := hT.stpd b0 b1 c0 (by omega); simp only [spec_l01Alike.l0]; rw [show rd (rd_L5 ns a) c = stp ns a c from rfl, show rd (rd_L5 ns b) c = stp ns b c from rfl, if_pos a0, if_pos (by rw [hT.1]; exact a1), if_pos (by rw [la]; omega), if_pos c0, if_pos sa.1, if_pos (by rw [hcl]; exact sa.2), if_pos b0, if_pos (by rw [hT.1]; exact b1), if_pos (by rw [lb]; omega), if_pos sb.1, if_pos (by rw [hcl]; exact sb.2)]; by_cases e : rd cl (stp ns a c) = rd cl (stp ns b c)
  ·rw [if_pos e, wrap_small c0 (by omega)]; obtain ⟨B, h, hB⟩ := ih k (c + 1) (by omega) (by omega) (by omega); refine ⟨B, h, hB.trans ⟨fun h c' h1 h2 => ?_, fun h c' h1 h2 => h c' (by omega) h2⟩⟩; by_cases e2 : c' = c
   ·rw [e2]; exact e
   ·exact h c' (by omega) h2
  ·rw [if_neg e]; exact ⟨false, rfl, by simp; exact ⟨c, by omega, by omega, e⟩⟩
/-- The search among the first ones. -/
theorem search_law (hT : TableOK W n ns) (hcl : cl.length = n) (hW : W ≤ 1000) (hn : n ≤ 1000000) {s : Int} (q0 : 0 ≤ s) (q1 : s < (n : Int)) {x7 x8 : List Int} (h7 : x7.length = n) (hneg : rd x7 s < 0) (h8 : ∀ f ∈ x8, 0 ≤ f ∧ f < (n : Int)) (h8l : x8.length ≤ n) {r : List Int × Int × Int × Int} {K : Nat}
  (hnone : (∀ f ∈ x8, ¬ SameC W ns (rd cl) f s) → ∀ k, K ≤ k → spec_l01Finer.l0 k cl (n : Int) (x7.set s.toNat (x8.length : Int)) (x8 ++ [s]) (s + 1) t s0 ac ns = some r)
  (hsome : ∀ (i : Nat) (f : Int), x8[i]? = some f → SameC W ns (rd cl) f s → ∀ k, K ≤ k → spec_l01Finer.l0 k cl (n : Int) (x7.set s.toNat (i : Int)) x8 (s + 1) t s0 ac ns = some r) :
  ∀ (d k j : Nat), j + d = x8.length → (∀ (i : Nat) f, i < j → x8[i]? = some f → ¬ SameC W ns (rd cl) f s) → K + 2 * d + W + 10 ≤ k → spec_l01Finer.l1 k cl (n : Int) x7 x8 s (j : Int) t s0 ac ns = some r := by
 intro d
 induction d with
 | zero =>
  intro k j hj hno hk; obtain ⟨k, rfl⟩ : ∃ m, k = m + 2 := ⟨k - 2, by omega⟩; rw [spec_l01Finer.l1, if_neg (by omega), spec_l01Finer.j2, if_neg (by simp), if_pos q0, if_pos (by rw [h7]; exact q1), if_pos hneg, if_pos (by omega), wrap_small q0 (by omega)]; refine hnone (fun f hf => ?_) k (by omega); obtain ⟨i, hi, he⟩ := List.getElem_of_mem hf; exact hno i f (by omega) (by rw [List.getElem?_eq_getElem hi, he])
 | succ d ih =>
  intro k j hj hno hk; obtain ⟨k, rfl⟩ : ∃ m, k = m + 2 := ⟨k - 2, by omega⟩; (have hj2 : j < x8.length := by omega); have hget : x8[j]? = some (rd x8 (j : Int)) := get_rd (i := (j : Int)) (by omega) (by omega); have hf := h8 _ (List.mem_of_getElem? hget); rw [spec_l01Finer.l1, if_pos (by omega), if_pos q0, if_pos (by rw [h7]; exact q1), spec_l01Finer.j2, if_pos (by simpa using hneg), if_pos (by omega), if_pos (by omega), if_pos hf.1, if_pos (by rw [hcl]; exact hf.2), if_pos q0, if_pos (by rw [hcl]; exact q1)]
  have next : ¬ SameC W ns (rd cl) (rd x8 (j : Int)) s → spec_l01Finer.l1 k cl (n : Int) x7 x8 s (wrap64 ((j : Int) + 1)) t s0 ac ns = some r := by
   intro hns; rw [wrap_small (by omega) (by omega)]
   exact ih k (j + 1) (by omega) (fun i f hi hif => by
    by_cases e : i = j
    ·subst e; rw [hget] at hif; obtain rfl := Option.some.inj hif; exact hns
    ·exact hno i f (by omega) hif) (by omega)
  by_cases e : rd cl (rd x8 (j : Int)) = rd cl s
  ·rw [if_pos e]; obtain ⟨B, hB, hBi⟩ := alike_law (t := t) (s0 := s0) (ac := ac) hT hcl hW hf.1 hf.2 q0 q1 W k 0 (by omega) (by omega) (by omega); rw [spec_l01Alike.f, hB]; simp only [Option.bind_some]; by_cases hBt : B = true
   ·have hs : SameC W ns (rd cl) (rd x8 (j : Int)) s := ⟨e, fun c c0 c1 => (hBi.1 hBt) c c0 c1⟩; rw [if_pos hBt, if_pos (by rw [h7]; exact q1), wrap_small (by omega) (by omega)]
    -- the next round ends the search, since the class is there now
    obtain ⟨k, rfl⟩ : ∃ m, k = m + 2 := ⟨k - 2, by omega⟩; have hrd : rd (x7.set s.toNat (j : Int)) s = (j : Int) := rd_set_same q0 (by rw [h7]; exact q1)
    have key : spec_l01Finer.j2 (k + 1) cl (n : Int) (x7.set s.toNat (j : Int)) x8 s ((j : Int) + 1) false t s0 ac ns = some r := by
     rw [spec_l01Finer.j2, if_neg (by simp), if_pos q0, if_pos (by rw [List.length_set, h7]; exact q1), if_neg (by rw [hrd]; omega), wrap_small q0 (by omega)]; exact hsome j _ hget hs k (by omega)
    rw [spec_l01Finer.l1]; by_cases e3 : (j : Int) + 1 < (x8.length : Int)
    ·rw [if_pos e3, if_pos q0, if_pos (by rw [List.length_set, h7]; exact q1), hrd, show decide ((j : Int) < 0) = false by simp]; exact key
    ·rw [if_neg e3]; exact key
   ·rw [if_neg hBt]; exact next (fun hs => hBt (hBi.2 (fun c' h1 h2 => hs.2 c' h1 h2)))
  ·rw [if_neg e]; exact next (fun hs => e hs.1)
/-- What holds of the classes found so far. -/
structure FindOK (W n : Nat) (ns : List (List Int)) (g : Int → Int) (s : Nat) (x7 x8 : List Int) : Prop where
 l7 : x7.length = n
 r8 : ∀ f ∈ x8, 0 ≤ f ∧ f < (s : Int)
 l8 : x8.length ≤ s
 apart : ∀ (i j : Nat) a b, x8[i]? = some a → x8[j]? = some b → SameC W ns g a b → i = j
 cls : ∀ i : Int, 0 ≤ i → i < (s : Int) → ∃ (j : Nat) (f : Int), rd x7 i = (j : Int) ∧ x8[j]? = some f ∧ SameC W ns g f i
 own : ∀ (j : Nat) f, x8[j]? = some f → rd x7 f = (j : Int)
theorem finer_l0 (hT : TableOK W n ns) (hcl : cl.length = n) (hW : W ≤ 1000) (hn : n ≤ 1000000) :
  ∀ (d : Nat) (s : Nat) (x7 x8 : List Int), s + d = n → FindOK W n ns (rd cl) s x7 x8 → ∃ (l : List Int) (x : List Int), FindOK W n ns (rd cl) n l x ∧ ∀ k, d * (2 * n + W + 20) + 1 ≤ k → spec_l01Finer.l0 k cl (n : Int) x7 x8 (s : Int) t s0 ac ns = some (l, (x.length : Int), t, s0) := by
 intro d
 induction d with
 | zero =>
  intro s x7 x8 hs hF; (have : s = n := by omega); subst this; refine ⟨x7, x8, hF, fun k hk => ?_⟩; obtain ⟨k, rfl⟩ : ∃ m, k = m + 1 := ⟨k - 1, by omega⟩; rw [spec_l01Finer.l0, if_neg (by omega)]
 | succ d ih =>
  intro s x7 x8 hs hF; (have q1 : (s : Int) < (n : Int) := by omega); (have hl7 : (x7.set (s : Int).toNat (-1)).length = n := by rw [List.length_set]; exact hF.l7); (have hneg : rd (x7.set (s : Int).toNat (-1)) (s : Int) < 0 := by rw [rd_set_same (by omega) (by rw [hF.l7]; exact q1)]; omega); (have hother : ∀ (v i : Int), 0 ≤ i → i ≠ (s : Int) → rd (((x7.set (s : Int).toNat (-1))).set (s : Int).toNat v) i = rd x7 i := fun v i h0 hi => by rw [rd_set_other (by omega) h0 (fun e => hi e.symm), rd_set_other (by omega) h0 (fun e => hi e.symm)]); have hself : ∀ v : Int, rd (((x7.set (s : Int).toNat (-1))).set (s : Int).toNat v) (s : Int) = v := fun v => rd_set_same (by omega) (by rw [hl7]; exact q1); by_cases hex : ∃ (i : Nat) (f : Int), x8[i]? = some f ∧ SameC W ns (rd cl) f (s : Int)
  ·obtain ⟨i, f, hif, hsame⟩ := hex
   have hF2 : FindOK W n ns (rd cl) (s + 1) ((x7.set (s : Int).toNat (-1)).set (s : Int).toNat (i : Int)) x8 := by
    refine ⟨by rw [List.length_set]; exact hl7, fun f hf => ?_, by have := hF.l8; omega, hF.apart, ?_, ?_⟩
    ·have := hF.r8 f hf; omega
    ·intro i' h0 h1; by_cases e : i' = (s : Int)
     ·rw [e]; exact ⟨i, f, hself _, hif, hsame⟩
     ·rw [hother _ i' h0 e]; exact hF.cls i' h0 (by omega)
    ·intro j f' hj; have := hF.r8 f' (List.mem_of_getElem? hj); rw [hother _ f' this.1 (by omega)]; exact hF.own j f' hj
   obtain ⟨l, x, hFn, hr⟩ := ih (s + 1) _ _ (by omega) hF2; refine ⟨l, x, hFn, fun k hk => ?_⟩; rw [Nat.add_mul, Nat.one_mul] at hk; obtain ⟨k, rfl⟩ : ∃ m, k = m + 1 := ⟨k - 1, by omega⟩; rw [spec_l01Finer.l0, if_pos q1, if_pos (by omega), if_pos (by rw [hF.l7]; exact q1)]; (have h8l : x8.length ≤ n := by have := hF.l8; omega); refine search_law (K := d * (2 * n + W + 20) + 1) (x8 := x8) hT hcl hW hn (by omega) q1 hl7 hneg (fun f hf => by have := hF.r8 f hf; omega) h8l (fun hno => absurd hsame (hno f (List.mem_of_getElem? hif))) (fun i2 f2 hif2 hs2 k' hk' => ?_) x8.length k 0 (by omega) (fun _ _ h => by omega) (by omega); have : i2 = i := hF.apart i2 i f2 f hif2 hif (hs2.trans hsame.symm); subst this; rw [show (s : Int) + 1 = ((s + 1 : Nat) : Int) by omega]; exact hr k' hk'
  ·have hno : ∀ f ∈ x8, ¬ SameC W ns (rd cl) f (s : Int) := by
    intro f hf hsame; obtain ⟨i, hi, he⟩ := List.getElem_of_mem hf; exact hex ⟨i, f, by rw [List.getElem?_eq_getElem hi, he], hsame⟩
   have hF2 : FindOK W n ns (rd cl) (s + 1) ((x7.set (s : Int).toNat (-1)).set (s : Int).toNat (x8.length : Int)) (x8 ++ [(s : Int)]) := by
    have hlast : ∀ (j : Nat) (a : Int), (x8 ++ [(s : Int)])[j]? = some a → (x8[j]? = some a ∧ j < x8.length) ∨ (j = x8.length ∧ a = (s : Int)) := by
     intro j a hj; by_cases e : j < x8.length
     ·rw [List.getElem?_append_left e] at hj; exact .inl ⟨hj, e⟩
     ·have := (List.getElem?_eq_some_iff.1 hj).1; simp at this; (have e2 : j = x8.length := by omega); subst e2; rw [List.getElem?_append_right (Nat.le_refl _)] at hj; simp at hj; exact .inr ⟨rfl, hj.symm⟩
    refine ⟨by rw [List.length_set]; exact hl7, ?_, by have := hF.l8; simp; omega, ?_, ?_, ?_⟩
    ·intro f hf
     rcases List.mem_append.1 hf with hf | hf
     ·have := hF.r8 f hf; omega
     ·simp at hf; omega
    ·intro i j a b hi hj hab
     rcases hlast i a hi with ⟨h1, h2⟩ | ⟨h1, h2⟩ <;> rcases hlast j b hj with ⟨h3, h4⟩ | ⟨h3, h4⟩
     ·exact hF.apart i j a b h1 h3 hab
     ·subst h4; exact absurd hab (hno a (List.mem_of_getElem? h1))
     ·subst h2; exact absurd hab.symm (hno b (List.mem_of_getElem? h3))
     ·omega
    ·intro i' h0 h1; by_cases e : i' = (s : Int)
     ·rw [e]; exact ⟨x8.length, (s : Int), hself _, by simp, rfl, fun c _ _ => rfl⟩
     ·rw [hother _ i' h0 e]; obtain ⟨j, f, h2, h3, h4⟩ := hF.cls i' h0 (by omega); exact ⟨j, f, h2, getE_app h3, h4⟩
    ·intro j f' hj
     rcases hlast j f' hj with ⟨h1, h2⟩ | ⟨h1, h2⟩
     ·have := hF.r8 f' (List.mem_of_getElem? h1); rw [hother _ f' this.1 (by omega)]; exact hF.own j f' h1
     ·rw [h2, h1]; exact hself _
   obtain ⟨l, x, hFn, hr⟩ := ih (s + 1) _ _ (by omega) hF2; refine ⟨l, x, hFn, fun k hk => ?_⟩; rw [Nat.add_mul, Nat.one_mul] at hk; obtain ⟨k, rfl⟩ : ∃ m, k = m + 1 := ⟨k - 1, by omega⟩; rw [spec_l01Finer.l0, if_pos q1, if_pos (by omega), if_pos (by rw [hF.l7]; exact q1)]; (have h8l : x8.length ≤ n := by have := hF.l8; omega); refine search_law (K := d * (2 * n + W + 20) + 1) (x8 := x8) hT hcl hW hn (by omega) q1 hl7 hneg (fun f hf => by have := hF.r8 f hf; omega) h8l (fun _ k' hk' => ?_) (fun i2 f2 hif2 hs2 k' hk' => absurd hs2 (hno f2 (List.mem_of_getElem? hif2))) x8.length k 0 (by omega) (fun _ _ h => by omega) (by omega); rw [show (s : Int) + 1 = ((s + 1 : Nat) : Int) by omega]; exact hr k' hk'
theorem finer_law (hT : TableOK W n ns) (hcl : cl.length = n) (hW : W ≤ 1000) (hn : n ≤ 1000000) : ∃ (l : List Int) (m : Nat), l.length = n ∧ m ≤ n ∧ Finer W n ns (rd cl) (rd l) m ∧ ∀ k, n * (2 * n + W + 20) + 1 ≤ k → spec_l01Finer.f k t s0 ac ns cl = some (l, (m : Int), t, s0) := by
 obtain ⟨l, x, hF, hr⟩ := finer_l0 (t := t) (s0 := s0) (ac := ac) hT hcl hW hn n 0 (List.replicate n 0) [] (by omega) ⟨by simp, by simp, by simp, by simp, fun i h0 h1 => by omega, by simp⟩; refine ⟨l, x.length, hF.l7, hF.l8, ⟨?_, ?_, ?_⟩, fun k hk => ?_⟩
 ·intro i j i0 i1 j0 j1; obtain ⟨a, fa, h1, h2, h3⟩ := hF.cls i i0 i1; obtain ⟨b, fb, h4, h5, h6⟩ := hF.cls j j0 j1; rw [h1, h4]; constructor
  ·intro e; (have : a = b := by omega); subst this; rw [h2] at h5; obtain rfl := Option.some.inj h5; exact h3.symm.trans h6
  ·intro e; have := hF.apart a b fa fb h2 h5 ((h3.trans e).trans h6.symm); rw [this]
 ·intro i i0 i1; obtain ⟨a, fa, h1, h2, h3⟩ := hF.cls i i0 i1; have := (List.getElem?_eq_some_iff.1 h2).1; rw [h1]; omega
 ·intro k hk; have h8 := hF.r8 x[k] (List.getElem_mem hk); exact ⟨x[k], h8.1, h8.2, hF.own k x[k] (List.getElem?_eq_getElem hk)⟩
 ·unfold spec_l01Finer.f; rw [if_pos (by omega), if_pos (by omega), hcl]; simp only [Int.toNat_natCast]; exact hr k hk
end
section
variable {W n : Nat} {ac : List Bool} {ns : List (List Int)} {t : Int}
theorem tclass_some (hT : TableOK W n ns) (hW : W ≤ 1000) (hn : n ≤ 1000000) {k : Nat} (hk : n * (2 * n + W + 20) + 1 ≤ k) : ∀ (f count : Nat) (cl : List Int), cl.length = n → ClassOK W n ac ns (rd cl) → count ≤ n → (∀ k : Nat, k < count → ∃ i, 0 ≤ i ∧ i < (n : Int) ∧ rd cl i = (k : Int)) → n + 1 ≤ f + count →
  ∃ (g : List Int) (m : Nat), tclassF k t ac ns f (count : Int) cl = some (g, (m : Int)) ∧ g.length = n ∧ m ≤ n ∧ ClassEq W n ac ns (rd g) ∧ ∀ i, 0 ≤ i → i < (n : Int) → 0 ≤ rd g i ∧ rd g i < (m : Int) := by
 intro f
 induction f with
 | zero => intro count cl _ _ h1 _ h2; omega
 | succ f ih =>
  intro count cl hcl hC hc hm hf; obtain ⟨l, m, hl, hmn, hfin, hr⟩ := finer_law (t := t) (s0 := 0) (ac := ac) hT hcl hW hn; rw [tclassF, hr k hk]; simp only [Option.bind_some, and_self, if_true]; by_cases e : m = count
  ·subst e; rw [if_pos rfl]; exact ⟨l, m, rfl, hl, hmn, hC.eq hT hfin hm, hfin.lo⟩
  ·rw [if_neg (by omega)]; have := hfin.le hm; exact ih m l hl (hC.next hT hfin) hmn hfin.met (by omega)
/-- 'l01Tidied', behind 'l01Right', makes the tidy table of the first state's language. -/
theorem tidiedF_law (hT : TableOK W n ns) (hn : ac.length = n) (h0 : 0 < n) (hW : W ≤ 1000) (hn2 : n ≤ 1000000) {k f : Nat} (hk : n * (2 * n + W + 20) + 1 ≤ k) (hf : n + 2 ≤ f) : ∃ r, tidiedF k f t ac ns = some r ∧ tidyD W f (lng W ac ns 0) = some r := by
 obtain ⟨g, m, hg, hgl, hmn, hE, hb⟩ := tclass_some (ac := ac) (t := t) hT hW hn2 hk f 0 (bitL ac) (by simp [bitL, hn]) (bitL_class hn) (by omega) (fun k hk => by omega) (by omega); have hb0 := hb 0 (by omega) (by omega); obtain ⟨r, hr, hd⟩ := tmain_law (m := m) hT hn (by omega) h0 hE hgl hb hf; refine ⟨r, ?_, hd⟩; unfold tidiedF; rw [show ((0 : Nat) : Int) = 0 from rfl] at hg; rw [hg]; simp only [Option.bind_some]; rw [if_pos (by omega), at1_in (by omega) (by omega)]; simp only [Option.bind_some]; rw [show rdOf 0 g 0 = rd g 0 from rfl, if_pos hb0]
 simpa using hr
end
section
variable {W n N kd : Nat} {ac : List Bool} {ns : List (List Int)} {pads : List Int} {tapes size : Int}
/-- The numbers of the pairs that were met. -/
structure NumOK (N : Nat) (nu l : List Int) : Prop where
 len : nu.length = N
 rng : ∀ v ∈ l, 0 ≤ v ∧ v < (N : Int)
 nod : l.Nodup
 num : ∀ v : Int, 0 ≤ v → v < (N : Int) → (rd nu v < 0 ∧ v ∉ l) ∨ ∃ i : Nat, rd nu v = (i : Int) ∧ l[i]? = some v
theorem NumOK.push {nu l : List Int} (h : NumOK N nu l) {v : Int} (v0 : 0 ≤ v) (v1 : v < (N : Int)) (hx : rd nu v < 0) : NumOK N (nu.set v.toNat (l.length : Int)) (l ++ [v]) := by
 have hnew : v ∉ l := by
  rcases h.num v v0 v1 with ⟨_, h2⟩ | ⟨i, h2, _⟩
  ·exact h2
  ·omega
 refine ⟨by simp [h.len], ?_, ?_, ?_⟩
 ·intro s hs
  rcases List.mem_append.1 hs with hs | hs
  ·exact h.rng s hs
  ·simp at hs; subst hs; exact ⟨v0, v1⟩
 ·exact List.nodup_append.2 ⟨h.nod, by simp, fun a ha b hb => by simp at hb; subst hb; exact fun he => hnew (he ▸ ha)⟩
 ·intro u u0 u1; by_cases e : v = u
  ·subst e; right; exact ⟨l.length, rd_set_same v0 (by rw [h.len]; exact v1), by simp⟩
  ·rw [rd_set_other v0 u0 e]
   rcases h.num u u0 u1 with ⟨h2, h3⟩ | ⟨i, h2, h3⟩
   ·left; refine ⟨h2, fun hm => ?_⟩
    rcases List.mem_append.1 hm with hm | hm
    ·exact h3 hm
    ·simp at hm; exact e hm.symm
   ·right; exact ⟨i, h2, getE_app h3⟩
def endE (pads : List Int) (p c : Int) : Int := if bits .andNot .i64 p (rd pads c) = 0 then rd pads c else -1
/-- An entry of a row: no state, or a pair that was met. -/
def EntryOK (size : Int) (pads : List Int) (ns : List (List Int)) (s p : Int) (l : List Int) (c x : Int) : Prop :=
 (endE pads p c < 0 ∧ x = -1) ∨ ∃ q : Nat, x = (q : Int) ∧ 0 ≤ endE pads p c ∧ l[q]? = some (stp ns s c * size + endE pads p c)
theorem EntryOK.app {s p : Int} {l d : List Int} {c x : Int} (h : EntryOK size pads ns s p l c x) : EntryOK size pads ns s p (l ++ d) c x := by
 rcases h with h | ⟨q, h1, h2, h3⟩
 ·exact .inl h
 ·exact .inr ⟨q, h1, h2, getE_app h3⟩
structure SizeOK (W n N : Nat) (size tapes : Int) (kd : Nat) (pads : List Int) : Prop where
 s1 : 1 ≤ size
 s8 : size ≤ 8
 N : (N : Int) = (n : Int) * size
 n : n ≤ 100000
 pl : pads.length = W
 pr : ∀ x ∈ pads, 0 ≤ x ∧ x < size
 en : ∀ p c, 0 ≤ p → p < size → 0 ≤ c → c < (W : Int) → spec_l01Ended.f kd tapes p c = some (endE pads p c)
theorem key_bound (hs : SizeOK W n N size tapes kd pads) {q e : Int} (q0 : 0 ≤ q) (q1 : q < (n : Int)) (e0 : 0 ≤ e) (e1 : e < size) : 0 ≤ q * size + e ∧ q * size + e < (N : Int) ∧ wrap64 (wrap64 (q * size) + e) = q * size + e ∧ (q * size + e) / size = q ∧ (q * size + e) % size = e := by
 have h0 : 0 ≤ q * size := Int.mul_nonneg q0 (by have := hs.s1; omega); have h1 : (q + 1) * size ≤ (n : Int) * size := Int.mul_le_mul_of_nonneg_right (by omega) (by have := hs.s1; omega); rw [Int.add_mul, Int.one_mul] at h1; have h2 : (n : Int) * size ≤ 100000 * 8 := Int.mul_le_mul (by have := hs.n; omega) hs.s8 (by have := hs.s1; omega) (by omega); have hN := hs.N; refine ⟨by omega, by omega, ?_, ?_, ?_⟩
 ·unfold wrap64; omega
 ·rw [Int.add_comm, Int.add_mul_ediv_right _ _ (by have := hs.s1; omega), Int.ediv_eq_zero_of_lt e0 e1, Int.zero_add]
 ·rw [Int.add_comm, Int.add_mul_emod_self_right, Int.emod_eq_of_lt e0 e1]
theorem key_parts (hs : SizeOK W n N size tapes kd pads) {v : Int} (v0 : 0 ≤ v) (v1 : v < (N : Int)) : wrap64 (Int.tdiv v size) = v / size ∧ Int.tmod v size = v % size ∧ 0 ≤ v / size ∧ v / size < (n : Int) ∧ 0 ≤ v % size ∧ v % size < size := by
 have hsz := hs.s1; have h0 : 0 ≤ v / size := Int.ediv_nonneg v0 (by omega); have h1 : v / size < (n : Int) := Int.ediv_lt_of_lt_mul (by omega) (by rw [← hs.N]; exact v1); refine ⟨?_, Int.tmod_eq_emod_of_nonneg v0, h0, h1, Int.emod_nonneg _ (by omega), Int.emod_lt_of_pos _ (by omega)⟩; rw [Int.tdiv_eq_ediv_of_nonneg v0]; have := hs.n; unfold wrap64; omega
theorem endE_range (hs : SizeOK W n N size tapes kd pads) {p c : Int} (c0 : 0 ≤ c) (c1 : c < (W : Int)) : endE pads p c = -1 ∨ (0 ≤ endE pads p c ∧ endE pads p c < size) := by
 unfold endE
 split
 ·exact .inr (rd_range hs.pr c0 (by rw [hs.pl]; exact c1))
 ·exact .inl rfl
theorem rrow_some (hs : SizeOK W n N size tapes kd pads) (hT : TableOK W n ns) {li : Int} (l0 : 0 ≤ li) (l1 : li < (N : Int)) :
  ∀ (m c : Nat) (nu l row : List Int), c + m = W → NumOK N nu l → ∃ nu1 d e, rrowF kd tapes size (rdOf [] ns (li / size)) li m c nu l row = some (nu1, l ++ d, row ++ e) ∧ NumOK N nu1 (l ++ d) ∧ e.length = m ∧ ∀ j : Nat, j < m → ∃ x, e[j]? = some x ∧ EntryOK size pads ns (li / size) (li % size) (l ++ d) ((c + j : Nat) : Int) x := by
 obtain ⟨k1, k2, k3, k4, k5, k6⟩ := key_parts hs l0 l1; intro m
 induction m with
 | zero => intro c nu l row _ hN; exact ⟨nu, [], [], by simp [rrowF], by simpa using hN, rfl, fun j hj => by omega⟩
 | succ m ih =>
  intro c nu l row hc hN; (have c1 : (c : Int) < (W : Int) := by omega); rw [rrowF, k2, hs.en _ _ k5 k6 (by omega) c1]; simp only [Option.bind_some]
  rcases endE_range hs (p := li % size) (c := (c : Int)) (by omega) c1 with he | ⟨e0, e1⟩
  ·rw [if_pos (by omega)]; obtain ⟨nu1, d, e, h1, h2, h3, h4⟩ := ih (c + 1) nu l (row ++ [-1]) (by omega) hN; refine ⟨nu1, d, -1 :: e, by simpa using h1, h2, by simp [h3], fun j hj => ?_⟩
   cases j with
   | zero => exact ⟨-1, by simp, .inl ⟨by rw [Nat.add_zero]; omega, rfl⟩⟩
   | succ j =>
    obtain ⟨x, hx, hx2⟩ := h4 j (by omega); exact ⟨x, by simpa using hx, by rw [show c + (j + 1) = c + 1 + j by omega]; exact hx2⟩
  ·rw [if_neg (by omega)]; have hrow := hT.row k3 k4; rw [at1_in (by omega) (by rw [show (rdOf [] ns (li / size)).length = W from (hT.2 _ hrow).1]; exact c1)]; simp only [Option.bind_some]; have est : rdOf 0 (rdOf [] ns (li / size)) (c : Int) = stp ns (li / size) (c : Int) := rfl; rw [est]; have hst := hT.stpd k3 k4 (c := (c : Int)) (by omega) c1; obtain ⟨b1, b2, b3, b4, b5⟩ := key_bound hs hst.1 hst.2 e0 e1; rw [b3, at1_in b1 (by rw [hN.len]; exact b2)]; simp only [Option.bind_some]; rw [show rdOf 0 nu (stp ns (li / size) (c : Int) * size + endE pads (li % size) (c : Int)) = rd nu (stp ns (li / size) (c : Int) * size + endE pads (li % size) (c : Int)) from rfl]
   rcases hN.num _ b1 b2 with ⟨h2, h3⟩ | ⟨i, h2, h3⟩
   ·rw [if_pos h2]; have hlen := nodup_len l ((List.range N).map (fun k : Nat => (k : Int))) hN.nod (fun v hv => by have := hN.rng v hv; exact List.mem_map.2 ⟨v.toNat, List.mem_range.2 (by omega), by omega⟩)
    have hlen2 : N ≤ 800000 := by
     have := hs.N; have h5 : (n : Int) * size ≤ 100000 * 8 := Int.mul_le_mul (by have := hs.n; omega) hs.s8 (by have := hs.s1; omega) (by omega); omega
    rw [if_pos (by simp at hlen; omega)]; obtain ⟨nu1, d, e, h5, h6, h7, h8⟩ := ih (c + 1) _ _ (row ++ [(l.length : Int)]) (by omega) (hN.push b1 b2 h2); refine ⟨nu1, _ :: d, (l.length : Int) :: e, by simpa using h5, by simpa using h6, by simp [h7], fun j hj => ?_⟩
    cases j with
    | zero => exact ⟨_, by simp, .inr ⟨l.length, rfl, by rw [Nat.add_zero]; exact e0, by simp⟩⟩
    | succ j =>
     obtain ⟨x, hx, hx2⟩ := h8 j (by omega); exact ⟨x, by simpa using hx, by rw [show c + (j + 1) = c + 1 + j by omega]; simpa using hx2⟩
   ·rw [if_neg (by omega), h2]; obtain ⟨nu1, d, e, h5, h6, h7, h8⟩ := ih (c + 1) nu l (row ++ [(i : Int)]) (by omega) hN; refine ⟨nu1, d, (i : Int) :: e, by simpa using h5, h6, by simp [h7], fun j hj => ?_⟩
    cases j with
    | zero => exact ⟨_, by simp, .inr ⟨i, rfl, by rw [Nat.add_zero]; exact e0, by rw [Nat.add_zero]; exact getE_app h3⟩⟩
    | succ j =>
     obtain ⟨x, hx, hx2⟩ := h8 j (by omega); exact ⟨x, by simpa using hx, by rw [show c + (j + 1) = c + 1 + j by omega]; exact hx2⟩
/-- The rows made so far. -/
structure RmOK (W N : Nat) (size : Int) (pads : List Int) (ac : List Bool) (ns : List (List Int)) (nu l : List Int) (bs : List Bool) (rs : List (List Int)) : Prop where
 nu : NumOK N nu l
 len : rs.length = bs.length
 le : bs.length ≤ l.length
 acc : ∀ (i : Nat) b, bs[i]? = some b → ∃ v, l[i]? = some v ∧ b = rdOf false ac (v / size)
 row : ∀ (i : Nat) row, rs[i]? = some row → row.length = W ∧ ∃ v, l[i]? = some v ∧ ∀ j : Nat, j < W → ∃ x, row[j]? = some x ∧ EntryOK size pads ns (v / size) (v % size) l (j : Int) x
theorem rmain_some (hs : SizeOK W n N size tapes kd pads) (hT : TableOK W n ns) (hn : ac.length = n) :
  ∀ (f : Nat) (nu l : List Int) (bs : List Bool) (rs : List (List Int)), RmOK W N size pads ac ns nu l bs rs → N < f + bs.length → ∃ bsF rsF nuF lF, rmainF kd tapes size W ac ns f nu l bs rs = some (bsF, rsF, l ++ lF) ∧ RmOK W N size pads ac ns nuF (l ++ lF) bsF rsF ∧ bsF.length = (l ++ lF).length := by
 intro f
 induction f with
 | zero =>
  intro nu l bs rs hR hf; have hlen := nodup_len l ((List.range N).map (fun k : Nat => (k : Int))) hR.nu.nod (fun v hv => by have := hR.nu.rng v hv; exact List.mem_map.2 ⟨v.toNat, List.mem_range.2 (by omega), by omega⟩); have := hR.le; simp at hlen; omega
 | succ f ih =>
  intro nu l bs rs hR hf; rw [rmainF]
  cases e : l[bs.length]? with
  | none =>
   have := List.getElem?_eq_none_iff.1 e; have := hR.le; exact ⟨bs, rs, nu, [], by simp, by simpa using hR, by simp; omega⟩
  | some li =>
   simp only; obtain ⟨v0, v1⟩ := hR.nu.rng li (List.mem_of_getElem? e); obtain ⟨k1, k2, k3, k4, k5, k6⟩ := key_parts hs v0 v1; rw [k1, at1_in k3 (by rw [hT.1]; exact k4)]; simp only [Option.bind_some]; rw [at1_in k3 (by omega)]; simp only [Option.bind_some]; obtain ⟨nu1, d, e1, h1, h2, h3, h4⟩ := rrow_some hs hT v0 v1 W 0 nu l [] (by omega) hR.nu; rw [h1]; simp only [Option.bind_some, List.nil_append]; have hlt := (List.getElem?_eq_some_iff.1 e).1
   have hR2 : RmOK W N size pads ac ns nu1 (l ++ d) (bs ++ [rdOf false ac (li / size)]) (rs ++ [e1]) := by
    refine ⟨h2, by simp [hR.len], by simp; omega, ?_, ?_⟩
    ·intro i b hb; by_cases ei : i < bs.length
     ·rw [List.getElem?_append_left ei] at hb; obtain ⟨v, h5, h6⟩ := hR.acc i b hb; exact ⟨v, getE_app h5, h6⟩
     ·have hi : i = bs.length := by
       have := (List.getElem?_eq_some_iff.1 hb).1; simp at this; omega
      subst hi; rw [List.getElem?_append_right (Nat.le_refl _)] at hb; simp at hb; exact ⟨li, getE_app e, hb.symm⟩
    ·intro i row hr; by_cases ei : i < rs.length
     ·rw [List.getElem?_append_left ei] at hr; obtain ⟨h0, v, h5, h6⟩ := hR.row i row hr; refine ⟨h0, v, getE_app h5, fun j hj => ?_⟩; obtain ⟨x, hx, hx2⟩ := h6 j hj; exact ⟨x, hx, hx2.app⟩
     ·have hi : i = rs.length := by
       have := (List.getElem?_eq_some_iff.1 hr).1; simp at this; omega
      subst hi; rw [List.getElem?_append_right (Nat.le_refl _)] at hr; simp at hr; subst hr; refine ⟨h3, li, getE_app (by rw [hR.len]; exact e), fun j hj => ?_⟩; obtain ⟨x, hx, hx2⟩ := h4 j hj; exact ⟨x, hx, by rw [Nat.zero_add] at hx2; exact hx2⟩
   obtain ⟨bsF, rsF, nuF, lF, h5, h6, h7⟩ := ih nu1 (l ++ d) _ _ hR2 (by simp; omega); exact ⟨bsF, rsF, nuF, d ++ lF, by simpa using h5, by simpa using h6, by simpa using h7⟩
theorem rightF_law (hs : SizeOK W n N size tapes kd pads) (hT : TableOK W n ns) (hn : ac.length = n) {start : Int} (s0 : 0 ≤ start) (s1 : start < (n : Int)) {f : Nat} (hf : N < f) :
  ∃ r, rightF kd tapes size W N f start ac ns = some r ∧ 0 < r.1.length ∧ r.1.length ≤ N + 1 ∧ TableOK W r.1.length r.2 ∧ lng W r.1 r.2 0 = lngR W pads ac ns (start, 0) := by
 obtain ⟨b1, b2, b3, b4, b5⟩ := key_bound hs s0 s1 (e := 0) (by omega) (by have := hs.s1; omega); rw [Int.add_zero] at b1 b2 b4 b5
 have hw : wrap64 (start * size) = start * size := by
  have h2 : (n : Int) * size ≤ 100000 * 8 := Int.mul_le_mul (by have := hs.n; omega) hs.s8 (by have := hs.s1; omega) (by omega); have hN := hs.N; unfold wrap64; omega
 have hNu : NumOK N ((List.replicate N (-1)).set (start * size).toNat 0) [start * size] := by
  refine ⟨by simp, by simp; omega, by simp, fun v v0 v1 => ?_⟩; by_cases e : start * size = v
  ·right; exact ⟨0, by rw [← e]; exact rd_set_same b1 (by simp; omega), by simp [e]⟩
  ·left; rw [rd_set_other b1 v0 e]; refine ⟨?_, by simpa using fun h => e h.symm⟩
   have : rd (List.replicate N (-1)) v = -1 := by
    (have hv : v.toNat < N := by omega); simp [rd, List.getD_eq_getElem?_getD, hv]
   omega
 obtain ⟨bs, rs, nu, lF, hr, hR, hl⟩ := rmain_some hs hT hn f _ _ [] [] ⟨hNu, rfl, by simp, by simp, by simp⟩ (by simpa using hf); generalize hL : [start * size] ++ lF = L at hr hR hl; have hLl := nodup_len L ((List.range N).map (fun k : Nat => (k : Int))) hR.nu.nod (fun v hv => by have := hR.nu.rng v hv; exact List.mem_map.2 ⟨v.toNat, List.mem_range.2 (by omega), by omega⟩); simp at hLl; refine ⟨_, by unfold rightF; rw [hw, if_pos ⟨b1, b2⟩, hr]; rfl, by simp, by simp; omega, ?_, ?_⟩
 ·refine ⟨by simp [hR.len], fun row hrow => ?_⟩; simp only [List.length_append, List.length_cons, List.length_nil]
  rcases List.mem_append.1 hrow with h | h
  ·obtain ⟨row0, h0, rfl⟩ := List.mem_map.1 h; obtain ⟨i, hi, he⟩ := List.getElem_of_mem h0; obtain ⟨hW, v, _, hj⟩ := hR.row i row0 (by rw [List.getElem?_eq_getElem hi, he]); refine ⟨by simp [fixRow, hW], fun x hx => ?_⟩; obtain ⟨y, hy, rfl⟩ := List.mem_map.1 hx; obtain ⟨j, hj1, hj2⟩ := List.getElem_of_mem hy; obtain ⟨x2, hx2, hE⟩ := hj j (by omega); rw [List.getElem?_eq_getElem hj1, hj2] at hx2; obtain rfl := Option.some.inj hx2
   rcases hE with ⟨_, h5⟩ | ⟨q, h5, _, h6⟩
   ·rw [h5]; simp; omega
   ·have := (List.getElem?_eq_some_iff.1 h6).1; rw [h5, if_neg (by omega)]; omega
  ·simp at h; subst h; refine ⟨by simp, fun x hx => ?_⟩; rw [List.eq_of_mem_replicate hx]; omega
 ·have hdead : ∀ w, lng W (bs ++ [false]) (rs.map (fixRow (L.length : Int)) ++ [List.replicate W (L.length : Int)]) (L.length : Int) w = false := by
   intro w
   induction w with
   | nil =>
    simp only [lng, rdOf, Int.toNat_natCast]; rw [List.getD_eq_getElem?_getD, ← hl, List.getElem?_append_right (Nat.le_refl _)]; simp
   | cons c w ih =>
    simp only [lng]; by_cases c0 : 0 ≤ c
    ·by_cases c1 : c < (W : Int)
     ·have : stp (rs.map (fixRow (L.length : Int)) ++ [List.replicate W (L.length : Int)]) (L.length : Int) c = (L.length : Int) := by
       simp only [stp, Int.toNat_natCast]; rw [List.getD_eq_getElem?_getD, List.getElem?_append_right (by simp [hR.len, hl])]; (have hcW : c.toNat < W := by omega); simp [hR.len, hl, rd, List.getD_eq_getElem?_getD, hcW]
      rw [this, ih]; simp
     ·simp [c1]
    ·simp [c0]
  have key : ∀ (w : List Int) (i : Nat) (v : Int), L[i]? = some v → lng W (bs ++ [false]) (rs.map (fixRow (L.length : Int)) ++ [List.replicate W (L.length : Int)]) (i : Int) w = lngR W pads ac ns (v / size, v % size) w := by
   intro w
   induction w with
   | nil =>
    intro i v hv; have hi := (List.getElem?_eq_some_iff.1 hv).1; obtain ⟨v0, v1⟩ := hR.nu.rng v (List.mem_of_getElem? hv); obtain ⟨k1, k2, k3, k4, k5, k6⟩ := key_parts hs v0 v1; (have hib : i < bs.length := by omega); obtain ⟨v', h1, h2⟩ := hR.acc i bs[i] (List.getElem?_eq_getElem hib); rw [hv] at h1; obtain rfl := Option.some.inj h1; simp only [lng, lngR, rdOf, Int.toNat_natCast, k5, decide_true, Bool.true_and]; rw [List.getD_eq_getElem?_getD, List.getElem?_append_left hib, List.getElem?_eq_getElem hib, h2]; rfl
   | cons c w ih =>
    intro i v hv; have hi := (List.getElem?_eq_some_iff.1 hv).1; obtain ⟨v0, v1⟩ := hR.nu.rng v (List.mem_of_getElem? hv); obtain ⟨k1, k2, k3, k4, k5, k6⟩ := key_parts hs v0 v1; simp only [lng, lngR, k5, decide_true, Bool.true_and]; by_cases c0 : 0 ≤ c
    ·by_cases c1 : c < (W : Int)
     ·simp only [c0, c1, decide_true, Bool.true_and]; (have hir : i < rs.length := by rw [hR.len]; omega); obtain ⟨hW, v', h1, hj⟩ := hR.row i rs[i] (List.getElem?_eq_getElem hir); rw [hv] at h1; obtain rfl := Option.some.inj h1; obtain ⟨x, hx, hE⟩ := hj c.toNat (by omega); rw [show ((c.toNat : Nat) : Int) = c by omega] at hE
      have hst : stp (rs.map (fixRow (L.length : Int)) ++ [List.replicate W (L.length : Int)]) (i : Int) c = if x < 0 then (L.length : Int) else x := by
       simp only [stp, Int.toNat_natCast]; rw [List.getD_eq_getElem?_getD, List.getElem?_append_left (by simpa using hir), List.getElem?_map, List.getElem?_eq_getElem hir]; simp [rd, List.getD_eq_getElem?_getD, fixRow, hx]
      rw [hst]
      rcases hE with ⟨h5, h6⟩ | ⟨q, h5, h6, h7⟩
      ·rw [h6, if_pos (by omega), hdead]
       have : ¬ bits .andNot .i64 (v % size) (rd pads c) = 0 := by
        intro hb; unfold endE at h5; rw [if_pos hb] at h5; have := rd_range hs.pr c0 (by rw [hs.pl]; exact c1); omega
       simp [this]
      ·rw [h5, if_neg (by omega)]
       have hb : bits .andNot .i64 (v % size) (rd pads c) = 0 := by
        by_cases hb : bits .andNot .i64 (v % size) (rd pads c) = 0
        ·exact hb
        ·unfold endE at h6; rw [if_neg hb] at h6; omega
       (have he : endE pads (v % size) c = rd pads c := by unfold endE; rw [if_pos hb]); rw [ih q _ h7, he]; have hpr := rd_range hs.pr c0 (by rw [hs.pl]; exact c1); have hst2 := hT.stpd k3 k4 c0 c1; obtain ⟨_, _, _, d4, d5⟩ := key_bound hs hst2.1 hst2.2 hpr.1 hpr.2; rw [d4, d5]; simp [hb]
     ·simp [c1]
    ·simp [c0]
  funext w
  have h0 := key w 0 (start * size) (by rw [← hL]; simp); rw [b4, b5] at h0; exact h0
end
end Go.Proofs.YtelicdmaohllgaaDoor.X
