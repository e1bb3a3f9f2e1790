import Derived.Test.YtocfcpicleomcaaDoorIC7
import Derived.Test.YtocfcpicleomcaaDoorIC6
import Derived.Carry
import Derived.Outline
import Derived.Test.YtocfcpicleomcaaDoorIC2
import Derived.Test.YtocfcpicleomcaaDoorIC3
namespace Go.Proofs.YtocfcpicleomcaaDoor.X
set_option maxHeartbeats 16000000
set_option maxRecDepth 100000
open Go.RowKit Go.Proofs.YtocfcpicleomcaaDoorW.PrintWords Go.Proofs.YtocfcpicleomcaaDoorW.PrintLast Go.Proofs.YtocfcpicleomcaaDoorW.PrintMore
set_option linter.unusedVariables false
set_option linter.unusedSimpArgs false
/-- The parts when a machine that was handed back has been put into a box: the result's box (1), the box (2), its marks (3), its rows (4). -/
theorem op_startQ {w3 w4 : World} {base A : Nat} {z cs : Array Value} {va vb : Value} {l2 : List Bool} {l3 : List (List Int)} (hA : w3.heap[A]? = some (.cells z 29 (0, 0))) (hR : Kd.bool.R 4 w3 base (fun _ => True) va l2) (hS : Kd.S (Kd.slice 2 (Kd.int .i64)) 42 w3 base (fun _ => True) vb l3) (hb : Below w3.heap.size w3 w4) (hN : w4.heap[w3.heap.size]? = some (.cells cs 29 (0, 0))) :
  ∃ own, Sep own w4 [(1, blkP A (.cells z 29 (0, 0))), (2, blkP w3.heap.size (.cells cs 29 (0, 0))), (3, rowP Kd.bool 4 base va l2), (4, rowsP (Kd.slice 2 (Kd.int .i64)) 42 base vb l3)] := by
 classical
 obtain ⟨Pa, Pb, h1, h2, hd, ta, tb⟩ := kd_apart (base := base) (by decide) hR hS (Nat.le_refl _)
 have na : ∀ k, Pa k → k ≠ A ∧ k ≠ w3.heap.size := by
  intro k hk; obtain ⟨q, hq, c, hc⟩ := ta k hk; refine ⟨fun e => ?_, fun e => ?_⟩
  ·subst e; rw [hA] at hc; injection hc with hc; injection hc with _ hc; subst hc; exact absurd hq (by decide)
  ·have := blk_lt hc; omega
 have nb : ∀ k, Pb k → k ≠ A ∧ k ≠ w3.heap.size := by
  intro k hk; obtain ⟨q, hq, c, hc⟩ := tb k hk; refine ⟨fun e => ?_, fun e => ?_⟩
  ·subst e; rw [hA] at hc; injection hc with hc; injection hc with _ hc; subst hc; exact absurd hq (by decide)
  ·have := blk_lt hc; omega
 have hlt := blk_lt hA; refine ⟨fun k => if k = A then 1 else if k = w3.heap.size then 2 else if Pa k then 3 else if Pb k then 4 else 0, ⟨blkP_ok _ _, ze0 hA hb, ?_⟩, ⟨blkP_ok _ _, hN, ?_⟩, ⟨qi0 _ _ _ _ _, ?_⟩, ⟨rowsP_ok _ _ _ _ _, ?_⟩, trivial⟩
 ·show (if A = A then 1 else _) = 1; rw [if_pos rfl]
 ·show (if w3.heap.size = A then 1 else if w3.heap.size = w3.heap.size then 2 else _) = 2; rw [if_neg (by omega), if_pos rfl]
 ·refine Kd.R_mono (Kd.yh0 h1 hb) (fun k hk => ?_); show (if k = A then 1 else if k = w3.heap.size then 2 else if Pa k then 3 else if Pb k then 4 else 0) = 3; rw [if_neg (na k hk).1, if_neg (na k hk).2, if_pos hk]
 ·refine Kd.S_mono (Kd.S_below h2 hb) (fun k hk => ?_); show (if k = A then 1 else if k = w3.heap.size then 2 else if Pa k then 3 else if Pb k then 4 else 0) = 4; rw [if_neg (nb k hk).1, if_neg (nb k hk).2, if_neg (fun h => hd k h hk), if_pos hk]
theorem fill_endQ {w W : World} {va vr : Value} {bs : List Bool} {rs : List (List Int)} {base : Nat} (hR : Kd.bool.R 4 W base (fun _ => True) va bs) (hS : Kd.S (Kd.slice 2 (Kd.int .i64)) 42 W base (fun _ => True) vr rs) (hbase : w.heap.size ≤ base) (hb : Below w.heap.size w W) {b : Nat} {cs : Array Value} (h : W.heap[b]? = some (.cells cs 29 (0, 0))) (hbb : w.heap.size ≤ b) (x y : Value) :
  Kd.bool.R 4 (set4 W b x y va vr) w.heap.size (fun _ => True) va bs ∧ Kd.S (Kd.slice 2 (Kd.int .i64)) 42 (set4 W b x y va vr) w.heap.size (fun _ => True) vr rs ∧ Below w.heap.size w (set4 W b x y va vr) :=
 ⟨R_set4 (Kd.yy0 hR hbase) h (by decide) _ _ _ _, S_set4 (Kd.qj0 hS hbase) h (by decide) _ _ _ _, qf0 hb hbb _ _ _ _⟩
def pairF (way : Int) (a b : Bool) : Bool := if way = 1 then a && b else if way = 2 then a || b else a && !b
theorem pairA_get {f : Bool → Bool → Bool} {m : List Bool} {k : Nat} (hk : k < m.length) : ∀ {l : List Bool} {i : Nat} (hi : i < l.length), (pairA f l m)[i * m.length + k]? = some (f l[i] m[k]) := by
 intro l
 induction l with
 | nil => intro i hi; exact absurd hi (by simp)
 | cons a l ih =>
  intro i hi; (have e : pairA f (a :: l) m = m.map (f a) ++ pairA f l m := by simp [pairA]); rw [e]
  cases i with
  | zero =>
   rw [List.getElem?_append_left (by simp; omega), Nat.zero_mul, Nat.zero_add, List.getElem?_map, List.getElem?_eq_getElem hk]; rfl
  | succ i =>
   rw [List.getElem?_append_right (by rw [List.length_map, Nat.succ_mul]; omega), List.length_map, show (i + 1) * m.length + k - m.length = i * m.length + k by rw [Nat.succ_mul]; omega, ih (by simpa using hi)]; rfl
theorem take_set_drop {F E : List Bool} {n : Nat} {x : Bool} (hx : F[n]? = some x) (he : E.length = F.length) : (F.take n ++ E.drop n).set n x = F.take (n + 1) ++ E.drop (n + 1) := by
 obtain ⟨hn, rfl⟩ := List.getElem?_eq_some_iff.1 hx; (have hA : (F.take n).length = n := by simp; omega); rw [List.set_append_right _ _ (by omega), hA, Nat.sub_self, List.drop_eq_getElem_cons (show n < E.length by omega), List.set_cons_zero, ← List.take_append_getElem hn, List.append_assoc]; rfl
theorem pairs2_calls (way : Int) (w : World) {g h W : Nat} {t s : Int} {l2 : List Bool} {l3 : List (List Int)} {t' s' : Int} {l2' : List Bool} {l3' : List (List Int)} (H1 : BoxRel w g t s l2 l3) (H2 : BoxRel w h t' s' l2' l3') (hn : l2.length ≤ 2000) (hn' : l2'.length ≤ 2000) (hW : W ≤ 1000) (T1 : TableOK W l2.length l3) (T2 : TableOK W l2'.length l3') (s0 : 0 ≤ s) (s1 : s < (l2.length : Int)) (u0 : 0 ≤ s') (u1 : s' < (l2'.length : Int)) :
  Calls Tryd.prog 97 #[.pointer (some ⟨g, 0, none⟩), .pointer (some ⟨h, 0, none⟩), .int .i64 way] w (DifPost w t (s * (l2'.length : Int) + s') (pairA (pairF way) l2 l2') (pairN (l2'.length : Int) l3 l3')) := by
 have HI1 := am H1; have HI2 := am H2; obtain ⟨A2, c2, A3, c3, b1, b2, b3, b4, b5⟩ := H1; obtain ⟨B2, d2, B3, d3, e1, e2, e3, e4, e5⟩ := H2; have HG := am b1; have HA := am b2; have HH := am e1; have HA' := am e2; have HL := am (And.intro hn hn'); have HD : Aside0 (∀ V, Below w.heap.size w V → Calls Tryd.prog 105 #[.pointer (some ⟨g, 0, none⟩), .pointer (some ⟨h, 0, none⟩)] V (DifPost V t (s * (l2'.length : Int) + s') (pairA neB l2 l2') (pairN (l2'.length : Int) l3 l3'))) := ⟨fun V hb => differ_calls V (HI1.out.below hb) (HI2.out.below hb) hn hn' hW T1 T2 s0 s1 u0 u1⟩; have hFl := qa0 (pairF way) l2 l2'; (have hEl : (pairA neB l2 l2').length = (pairA (pairF way) l2 l2').length := by rw [qa0, qa0]); have hget : ∀ i k (hi : i < l2.length) (hk : k < l2'.length), (pairA (pairF way) l2 l2')[i * l2'.length + k]? = some (pairF way l2[i] l2'[k]) := fun i k hi hk => pairA_get hk hi; have hS : Aside0 (∃ S0, S0 = s * (l2'.length : Int) + s') := ⟨_, rfl⟩; obtain ⟨S0, hS0⟩ := hS.out
 rw [← hS0] at HD ⊢
 clear hS hS0 b1 b2 b3 b4 b5 e1 e2 e3 e4 e5 T1 T2 hn hn' hW s0 s1 u0 u1; generalize pairA neB l2 l2' = E at *; generalize pairA (pairF way) l2 l2' = F at *; generalize pairN (l2'.length : Int) l3 l3' = rs at *; have HF := am (And.intro hFl (And.intro hEl hget)); clear hFl hEl hget HI1 HI2; have HB0 := am (zp0 (Below.refl w.heap.size w) (.cells #[.int .i64 0, .int .i64 0, .slice none 0 0, .slice none 0 0] 29)); have HK0 := am (yi0 w (.cells #[.int .i64 0, .int .i64 0, .slice none 0 0, .slice none 0 0] 29)); go_enter Tryd.func97, Tryd.ntmps97
 go_upto_region 1 with (fail)
 generalize World.alloc _ _ = w2 at *
 go_wp2_with (fail)
 (with_reducible refine (HD.out w2 HB0.out).mono ?_); rintro e w3 ⟨v2, v3, rfl, hR, hS, hb⟩; obtain ⟨C2, q2, hv2⟩ := Kd.zq0 hR; subst hv2; obtain ⟨C3, q3, hv3⟩ := Kd.yt0 hS; subst hv3; have HB3 := am (zk0 HB0.out HB0.out.size hb); have HK3 := am (ze0 HK0.out hb); have HR3 := am (Kd.yy0 hR HB0.out.size); have HS3 := am (Kd.qj0 hS HB0.out.size); clear hR hS hb HB0 HK0 HD
 go_upto_region 2 with (fail)
 have hb3 := zp0 (Below.refl w3.heap.size w3) (.cells #[.int .i64 t, .int .i64 S0, .slice C2 E.length q2, .slice C3 rs.length q3] 29); have HSP := am (op_startQ (A := w.heap.size) HK3.out HR3.out HS3.out hb3 (yi0 w3 (.cells #[.int .i64 t, .int .i64 S0, .slice C2 E.length q2, .slice C3 rs.length q3] 29))); have HB4 := am (zk0 HB3.out HB3.out.size hb3); have HGE := am (show w.heap.size ≤ w3.heap.size from HB3.out.size); clear hb3 HB3 HK3 HR3 HS3; generalize w3.alloc _ = w4 at *; generalize w3.heap.size = ob at *; obtain ⟨own0, hsp0⟩ := HSP.out; have HSp := am hsp0; clear HSP hsp0 w3; have x2 : w4.cell? ⟨h, 2, none⟩ = some (.slice B2 l2'.length d2) := (za0 (ze0 HH.out HB4.out) 2).trans rfl; go_wp2; clear x2
 go_loopg [9] l2.length (fun kq v9 w' => ∃ (i : Nat), v9 = .int .i64 (i : Int) ∧ Aside0 (i + kq = l2.length) ∧ Aside0 (Below w.heap.size w w') ∧ Aside0 (Sep own0 w' [(1, blkP w.heap.size (.cells #[.int .i64 0, .int .i64 0, .slice none 0 0, .slice none 0 0] 29 (0, 0))), (2, blkP ob (.cells #[.int .i64 t, .int .i64 S0, .slice C2 E.length q2, .slice C3 rs.length q3] 29 (0, 0))), (3, rowP Kd.bool 4 w.heap.size (.slice C2 E.length q2) (F.take (i * l2'.length) ++ E.drop (i * l2'.length))), (4, rowsP (Kd.slice 2 (Kd.int .i64)) 42 w.heap.size (.slice C3 rs.length q3) rs)]))
 case atStart => exact ⟨0, rfl, ⟨by omega⟩, HB4, ⟨by simpa using HSp.out⟩⟩
 case round =>
  clear HB4 HSp; obtain ⟨i, rfl, HK, HB, HSp⟩ := hrel; have x2 : wr.cell? ⟨g, 2, none⟩ = some (.slice A2 l2.length c2) := (za0 (ze0 HG.out HB.out) 2).trans rfl
  cases gk with
  | zero =>
   (have hi : i = l2.length := by have := HK.out; omega); have c1 : decide ((i : Int) < (l2.length : Int)) = false := decide_eq_false (by omega); have c2_ : decide (i < l2.length) = false := decide_eq_false (by omega)
   have hfl : F.take (i * l2'.length) ++ E.drop (i * l2'.length) = F := by
    rw [hi, ← HF.out.1, List.take_length, ← HF.out.2.1, List.drop_length, List.append_nil]
   have b3 := (HSp.out.get (i := 1) rfl).1; have b0 := (HSp.out.get (i := 0) rfl).1; obtain ⟨y0, y1, y2, y3⟩ := bc4 b3; obtain ⟨n0, n1, n2, n3⟩ := bc4 b0; obtain ⟨f0, f1, f2, f3⟩ := bf4 b0; rw [hfl] at HSp; have HE := am (fill_endQ (w := w) (Kd.R_mono (HSp.out.get (i := 2) rfl) (fun _ _ => trivial)) (Kd.S_mono (HSp.out.get (i := 3) rfl) (fun _ _ => trivial)) (Nat.le_refl _) HB.out b0 (Nat.le_refl _) (.int .i64 t) (.int .i64 S0)); clear b3 b0 HSp HB hfl; go_wp2; refine bodyPost_ret (v := .agg #[.int .i64 t, .int .i64 S0, .slice C2 E.length q2, .slice C3 rs.length q3]) (by simp [results, Tryd.results97, go_sem, n0, n1, n2, n3]) rfl ⟨_, _, rfl, HE.out⟩
  | succ k1 =>
   (have hi : i < l2.length := by have := HK.out; omega); have c1 : decide ((i : Int) < (l2.length : Int)) = true := decide_eq_true (by omega); have c2_ : decide (i < l2.length) = true := decide_eq_true (by omega); obtain ⟨adA, eaA, hxA⟩ := Kd.xn0 HA.out (i : Int) (by omega) (by omega); rw [show rdOf false l2 (i : Int) = l2[i] by simp [rdOf, List.getD_eq_getElem?_getD, List.getElem?_eq_getElem hi]] at hxA; simp only [Int.toNat_natCast] at hxA; subst eaA; have hgi : ∀ k (hk : k < l2'.length), F[i * l2'.length + k]? = some (pairF way l2[i] l2'[k]) := fun k hk => HF.out.2.2 i k hi hk; have HXA := am hxA; have HI := am hi; clear hxA; go_wp2; clear x2 c1 c2_
   go_loopg [10] l2'.length (fun kq v10 w' => ∃ (k : Nat), v10 = .int .i64 (k : Int) ∧ Aside0 (k + kq = l2'.length) ∧ Aside0 (Below w.heap.size w w') ∧ Aside0 (Sep own0 w' [(1, blkP w.heap.size (.cells #[.int .i64 0, .int .i64 0, .slice none 0 0, .slice none 0 0] 29 (0, 0))), (2, blkP ob (.cells #[.int .i64 t, .int .i64 S0, .slice C2 E.length q2, .slice C3 rs.length q3] 29 (0, 0))), (3, rowP Kd.bool 4 w.heap.size (.slice C2 E.length q2) (F.take (i * l2'.length + k) ++ E.drop (i * l2'.length + k))), (4, rowsP (Kd.slice 2 (Kd.int .i64)) 42 w.heap.size (.slice C3 rs.length q3) rs)]))
   case atStart => exact ⟨0, rfl, ⟨by omega⟩, HB, HSp⟩
   case round =>
    clear HB HSp; obtain ⟨k, rfl, HK2, HB, HSp⟩ := hrel
    cases gk with
    | zero =>
     (have hk : k = l2'.length := by have := HK2.out; omega); have c1 : decide ((k : Int) < (l2'.length : Int)) = false := decide_eq_false (by omega); have c2_ : decide (k < l2'.length) = false := decide_eq_false (by omega); (have hil : i < 2000 := by have := HI.out; have := HL.out.1; omega); go_wp2; go_roundg k1
     case measure => omega
     case rel => exact ⟨i + 1, by go_num, ⟨by have := HK.out; omega⟩, HB, ⟨by rw [show (i + 1) * l2'.length = i * l2'.length + k by rw [Nat.succ_mul]; omega]; exact HSp.out⟩⟩
    | succ k2 =>
     (have hk : k < l2'.length := by have := HK2.out; omega); have c1 : decide ((k : Int) < (l2'.length : Int)) = true := decide_eq_true (by omega); have c2_ : decide (k < l2'.length) = true := decide_eq_true (by omega); obtain ⟨adB, eaB, hxB⟩ := Kd.xn0 HA'.out (k : Int) (by omega) (by omega); rw [show rdOf false l2' (k : Int) = l2'[k] by simp [rdOf, List.getD_eq_getElem?_getD, List.getElem?_eq_getElem hk]] at hxB; simp only [Int.toNat_natCast] at hxB; subst eaB; have hgk := hgi k hk; have y2 : wr.cell? ⟨ob, 2, none⟩ = some (.slice C2 E.length q2) := (za0 (HSp.out.get (i := 1) rfl).1 2).trans rfl; have z1 : wr.cell? ⟨g, 2, none⟩ = some (.slice (some adA) l2.length c2) := (za0 (ze0 HG.out HB.out) 2).trans rfl; have z2 : wr.cell? (adA.add i) = some (.bool l2[i]) := zc0 HB.out HXA.out; have z3 : wr.cell? ⟨h, 2, none⟩ = some (.slice (some adB) l2'.length d2) := (za0 (ze0 HH.out HB.out) 2).trans rfl; have z4 : wr.cell? (adB.add k) = some (.bool l2'[k]) := zc0 HB.out hxB; have p2 : (i < l2.length) = True := eq_true HI.out; have p3 : (k < l2'.length) = True := eq_true hk; have hmn : i * l2'.length + k < F.length := (List.getElem?_eq_some_iff.1 hgk).1; have hEF := HF.out.2.1; have hw_ := wrap_pair (p := (i : Int)) (q := (k : Int)) (m := l2'.length) (by omega) (by have := HI.out; have := HL.out.1; omega) HL.out.2 (by omega) (by have := HL.out.2; omega); (have hj : wrap64 (wrap64 ((i : Int) * (l2'.length : Int)) + (k : Int)) = ((i * l2'.length + k : Nat) : Int) := by rw [hw_]; push_cast; rfl); (have hll : (F.take (i * l2'.length + k) ++ E.drop (i * l2'.length + k)).length = E.length := by simp; omega); obtain ⟨gx, c, hv, hx, hf⟩ := HSp.out.boolAt 2 rfl (wrap64 (wrap64 ((i : Int) * (l2'.length : Int)) + (k : Int))) (by omega) (by rw [hll]; omega); rw [hll] at hv; simp only [Value.slice.injEq, true_and] at hv; obtain ⟨hv1, hv2⟩ := hv; subst hv1; subst hv2; have q0 : (0 ≤ wrap64 (wrap64 ((i : Int) * (l2'.length : Int)) + (k : Int))) = True := eq_true (by omega); have q1 : (wrap64 (wrap64 ((i : Int) * (l2'.length : Int)) + (k : Int)) < (E.length : Int)) = True := eq_true (by omega); have HSp2 := am (HSp.out.setBool 2 rfl (wrap64 (wrap64 ((i : Int) * (l2'.length : Int)) + (k : Int))) (pairF way l2[i] l2'[k]) rfl); simp only [List.set_cons_succ, List.set_cons_zero] at HSp2; have hset := take_set_drop hgk hEF; (have hjn : (wrap64 (wrap64 ((i : Int) * (l2'.length : Int)) + (k : Int))).toNat = i * l2'.length + k := by omega); rw [show (F.take (i * l2'.length + k) ++ E.drop (i * l2'.length + k)).set (wrap64 (wrap64 ((i : Int) * (l2'.length : Int)) + (k : Int))).toNat (pairF way l2[i] l2'[k]) = F.take (i * l2'.length + k + 1) ++ E.drop (i * l2'.length + k + 1) by rw [hjn]; exact hset] at HSp2; have HB2 := am (HB.out.setCell (p := ⟨gx, (wrap64 (wrap64 ((i : Int) * (l2'.length : Int)) + (k : Int))).toNat, none⟩) (Kd.R_base (HSp.out.get (i := 2) rfl) gx rfl) (.bool (pairF way l2[i] l2'[k]))); clear hset hjn hll hj hw_ hmn hgk hEF HSp HB; generalize l2[i] = a at *; generalize l2'[k] = b at *; (have hkl : k < 2000 := by have := HL.out.2; omega); by_cases w1 : way = 1
     ·subst w1; have e1 : pairF 1 a b = (a && b) := rfl; rw [e1] at HSp2 HB2; clear e1
      cases a with
      | true =>
       simp only [Bool.true_and] at HSp2 HB2; go_wp2; go_roundg k2
       case measure => omega
       case rel => exact ⟨k + 1, by go_num, ⟨by have := HK2.out; omega⟩, HB2, HSp2⟩
      | false =>
       simp only [Bool.false_and] at HSp2 HB2; go_wp2; go_roundg k2
       case measure => omega
       case rel => exact ⟨k + 1, by go_num, ⟨by have := HK2.out; omega⟩, HB2, HSp2⟩
     ·by_cases w2 : way = 2
      ·subst w2; have e1 : pairF 2 a b = (a || b) := rfl; rw [e1] at HSp2 HB2; clear e1 w1
       cases a with
       | true =>
        simp only [Bool.true_or] at HSp2 HB2; go_wp2; go_roundg k2
        case measure => omega
        case rel => exact ⟨k + 1, by go_num, ⟨by have := HK2.out; omega⟩, HB2, HSp2⟩
       | false =>
        simp only [Bool.false_or] at HSp2 HB2; go_wp2; go_roundg k2
        case measure => omega
        case rel => exact ⟨k + 1, by go_num, ⟨by have := HK2.out; omega⟩, HB2, HSp2⟩
      ·(have e1 : pairF way a b = (a && !b) := by unfold pairF; rw [if_neg w1, if_neg w2]); rw [e1] at HSp2 HB2; have u1 : (way == 1) = false := beq_eq_false_iff_ne.mpr w1; have u2 : (way == 2) = false := beq_eq_false_iff_ne.mpr w2; clear e1 w1 w2
       cases a with
       | true =>
        simp only [Bool.true_and] at HSp2 HB2; go_wp2; go_roundg k2
        case measure => omega
        case rel => exact ⟨k + 1, by go_num, ⟨by have := HK2.out; omega⟩, HB2, HSp2⟩
       | false =>
        simp only [Bool.false_and] at HSp2 HB2; go_wp2; go_roundg k2
        case measure => omega
        case rel => exact ⟨k + 1, by go_num, ⟨by have := HK2.out; omega⟩, HB2, HSp2⟩
theorem box_made {W W4 : World} {g B : Nat} {t s : Int} {A2 : Option Addr} {c2 : Nat} {bs : List Bool} {A3 : Option Addr} {c3 : Nat} {rs : List (List Int)} (hR : Kd.R Kd.bool 4 W B (fun _ => True) (.slice A2 bs.length c2) bs) (hS : Kd.S (Kd.slice 2 (Kd.int .i64)) 42 W B (fun _ => True) (.slice A3 rs.length c3) rs) (hb : Below W.heap.size W W4) (hN : W4.heap[g]? = some (.cells #[.int .i64 t, .int .i64 s, .slice A2 bs.length c2, .slice A3 rs.length c3] 29 (0, 0))) : BoxRel W4 g t s bs rs := by
 obtain ⟨-, q1, q2⟩ := Kd.zx0 (Kd.yh0 hR hb); obtain ⟨-, q3, q4⟩ := Kd.qg0 (Kd.S_below hS hb); exact ⟨A2, c2, A3, c3, hN, q2, q1, q4, q3⟩
theorem tidiedv_box {k : Nat} (w : World) {g : Nat} {t s : Int} {l2 : List Bool} {l3 : List (List Int)} {r1 r2 : Int} {r3 : List Bool} {r4 : List (List Int)} (H : BoxRel w g t s l2 l3) (h : yw0.f k t s l2 l3 = some (r1, r2, r3, r4)) :
  Calls Tryd.prog 54 #[.pointer (some ⟨g, 0, none⟩)] w (DifPost w r1 r2 r3 r4) := by
 obtain ⟨A2, c2, A3, c3, h1, h2, h3, h4, h5⟩ := H; exact yw0.calls k t s A2 c2 l2 A3 c3 l3 r1 r2 r3 r4 w h1 h2 h3 h4 h5 h
def TabsOK (s : Int) (l2 : List Bool) (l3 : List (List Int)) (s' : Int) (l2' : List Bool) (l3' : List (List Int)) : Prop := ∃ W, W ≤ 1000 ∧ TableOK W l2.length l3 ∧ TableOK W l2'.length l3' ∧ l2.length ≤ 2000 ∧ l2'.length ≤ 2000 ∧ 0 ≤ s ∧ s < (l2.length : Int) ∧ 0 ≤ s' ∧ s' < (l2'.length : Int)
attribute [local go_sem] max2_int min2_int max_two min_two qo0 qn0 max_four min_four
open Classical in
noncomputable def xd0.f (k : Nat) (a0 : Int) (a1 : Int) (l2 : List Bool) (l3 : List (List Int)) (b0 : Int) (b1 : Int) (m2 : List Bool) (m3 : List (List Int)) : Option (Bool × Int) :=
 (l01TwoF k a0 a1 l2 l3 b0 b1 m2 m3).bind fun c => if c = 0 then (yw0.f k a0 a1 l2 l3).bind fun a => (yw0.f k b0 b1 m2 m3).bind fun b => if TabsOK a.2.1 a.2.2.1 a.2.2.2 b.2.1 b.2.2.1 b.2.2.2 then (zh0.f k a.1 (a.2.1 * (b.2.2.1.length : Int) + b.2.1) (pairA (pairF 3) a.2.2.1 b.2.2.1) (pairN (b.2.2.1.length : Int) a.2.2.2 b.2.2.2)).bind fun q => some (!q.2.1, 0) else none else some (false, c)
theorem xd0.calls (k : Nat) (a0_0 : Int) (a0_1 : Int) (A0_2 : Option Addr) (c0_2 : Nat) (l0_2 : List Bool) (A0_3 : Option Addr) (c0_3 : Nat) (l0_3 : List (List Int)) (a1_0 : Int) (a1_1 : Int) (A1_2 : Option Addr) (c1_2 : Nat) (l1_2 : List Bool) (A1_3 : Option Addr) (c1_3 : Nat) (l1_3 : List (List Int)) (r1 : Bool) (r2 : Int) (w : World) (hr0_2 : Kd.C Kd.bool w A0_2 l0_2.length l0_2) (hc0_2 : l0_2.length ≤ c0_2) (hr0_3 : Kd.C (Kd.slice 2 (Kd.int .i64)) w A0_3 l0_3.length l0_3) (hc0_3 : l0_3.length ≤ c0_3) (hr1_2 : Kd.C Kd.bool w A1_2 l1_2.length l1_2) (hc1_2 : l1_2.length ≤ c1_2) (hr1_3 : Kd.C (Kd.slice 2 (Kd.int .i64)) w A1_3 l1_3.length l1_3) (hc1_3 : l1_3.length ≤ c1_3) (h : xd0.f k a0_0 a0_1 l0_2 l0_3 a1_0 a1_1 l1_2 l1_3 = some (r1, r2)) :
  Calls Tryd.prog 41 #[.agg #[.int .i64 a0_0, .int .i64 a0_1, .slice A0_2 l0_2.length c0_2, .slice A0_3 l0_3.length c0_3], .agg #[.int .i64 a1_0, .int .i64 a1_1, .slice A1_2 l1_2.length c1_2, .slice A1_3 l1_3.length c1_3]] w fun e w' => e = .returned (.tuple #[.bool r1, .int .i64 r2]) ∧ Below w.heap.size w w' := by
 unfold xd0.f at h; obtain ⟨c, hc, h⟩ := Option.bind_eq_some_iff.mp h; have HC := am hc; have HB0 := am (zp0 (zp0 (Below.refl w.heap.size w) (.cells #[.int .i64 a0_0, .int .i64 a0_1, .slice A0_2 l0_2.length c0_2, .slice A0_3 l0_3.length c0_3] 29)) (.cells #[.int .i64 a1_0, .int .i64 a1_1, .slice A1_2 l1_2.length c1_2, .slice A1_3 l1_3.length c1_3] 29)); have BG : BoxRel ((w.alloc (.cells #[.int .i64 a0_0, .int .i64 a0_1, .slice A0_2 l0_2.length c0_2, .slice A0_3 l0_3.length c0_3] 29)).alloc (.cells #[.int .i64 a1_0, .int .i64 a1_1, .slice A1_2 l1_2.length c1_2, .slice A1_3 l1_3.length c1_3] 29)) w.heap.size a0_0 a0_1 l0_2 l0_3 := ⟨A0_2, c0_2, A0_3, c0_3, zu0 (yi0 w _) _, Kd.zn0 hr0_2 HB0.out, hc0_2, Kd.zn0 hr0_3 HB0.out, hc0_3⟩; have BH : BoxRel ((w.alloc (.cells #[.int .i64 a0_0, .int .i64 a0_1, .slice A0_2 l0_2.length c0_2, .slice A0_3 l0_3.length c0_3] 29)).alloc (.cells #[.int .i64 a1_0, .int .i64 a1_1, .slice A1_2 l1_2.length c1_2, .slice A1_3 l1_3.length c1_3] 29)) (w.heap.size + 1) a1_0 a1_1 l1_2 l1_3 := ⟨A1_2, c1_2, A1_3, c1_3, by have h_ := yi0 (w.alloc (.cells #[.int .i64 a0_0, .int .i64 a0_1, .slice A0_2 l0_2.length c0_2, .slice A0_3 l0_3.length c0_3] 29)) (.cells #[.int .i64 a1_0, .int .i64 a1_1, .slice A1_2 l1_2.length c1_2, .slice A1_3 l1_3.length c1_3] 29); simpa using h_, Kd.zn0 hr1_2 HB0.out, hc1_2, Kd.zn0 hr1_3 HB0.out, hc1_3⟩; have HG := am BG; have HH := am BH; clear hc hr0_2 hc0_2 hr0_3 hc0_3 hr1_2 hc1_2 hr1_3 hc1_3 BG BH; by_cases c0 : c = 0
 ·subst c0; rw [if_pos rfl] at h; obtain ⟨⟨a1, a2, a3, a4⟩, h1, h⟩ := Option.bind_eq_some_iff.mp h; obtain ⟨⟨b1, b2, b3, b4⟩, h2, h⟩ := Option.bind_eq_some_iff.mp h; by_cases hT : TabsOK a2 a3 a4 b2 b3 b4
  case neg => rw [if_neg hT] at h; cases h
  rw [if_pos hT] at h; obtain ⟨⟨t1, t2, t3, t4⟩, h3, h4⟩ := Option.bind_eq_some_iff.mp h; simp only [Option.some.injEq, Prod.mk.injEq] at h4; obtain ⟨rfl, rfl⟩ := h4; have HA := am h1; have HBb := am h2; have H5 := am h3; have HT := am hT; clear h h1 h2 h3 hT; go_enter Tryd.func41, Tryd.ntmps41
  go_wp2_with (fail)
  generalize World.alloc _ _ = w1 at *; (with_reducible refine (two_calls w1 HG.out HH.out HC.out).mono ?_); rintro e w2 ⟨rfl, hb⟩; have HG2 := am (HG.out.below hb); have HH2 := am (HH.out.below hb); have HB2 := am (zk0 HB0.out HB0.out.size hb); clear hb HG HH HB0
  go_wp2_with (fail)
  (with_reducible refine (tidiedv_box w2 HG2.out HA.out).mono ?_); rintro e w3 ⟨v2, v3, rfl, hR, hS, hb⟩; obtain ⟨C2, q2, hv2⟩ := Kd.zq0 hR; subst hv2; obtain ⟨C3, q3, hv3⟩ := Kd.yt0 hS; subst hv3; have HB3 := am (zk0 HB2.out HB2.out.size hb); have HH3 := am (HH2.out.below hb); have HR3 := am hR; have HS3 := am hS; clear hR hS hb HB2 HH2 HG2 HA
  go_upto_region 5 with (fail)
  have hb3 := zp0 (Below.refl w3.heap.size w3) (.cells #[.int .i64 a1, .int .i64 a2, .slice C2 a3.length q2, .slice C3 a4.length q3] 29); have BA := am (box_made HR3.out HS3.out hb3 (yi0 w3 (.cells #[.int .i64 a1, .int .i64 a2, .slice C2 a3.length q2, .slice C3 a4.length q3] 29))); have HB4 := am (zk0 HB3.out HB3.out.size hb3); have HH4 := am (HH3.out.below hb3); clear hb3 HB3 HR3 HS3 HH3; generalize w3.alloc _ = w4 at *; generalize w3.heap.size = ga at *; clear w1 w2 w3
  go_wp2_with (fail)
  (with_reducible refine (tidiedv_box w4 HH4.out HBb.out).mono ?_); rintro e w5 ⟨v2, v3, rfl, hR, hS, hb⟩; obtain ⟨D2, p2, hv2⟩ := Kd.zq0 hR; subst hv2; obtain ⟨D3, p3, hv3⟩ := Kd.yt0 hS; subst hv3; have HB5 := am (zk0 HB4.out HB4.out.size hb); have BA5 := am (BA.out.below hb); have HR5 := am hR; have HS5 := am hS; clear hR hS hb HB4 HH4 HBb BA
  go_upto_region 6 with (fail)
  have hb3 := zp0 (Below.refl w5.heap.size w5) (.cells #[.int .i64 b1, .int .i64 b2, .slice D2 b3.length p2, .slice D3 b4.length p3] 29); have BB := am (box_made HR5.out HS5.out hb3 (yi0 w5 (.cells #[.int .i64 b1, .int .i64 b2, .slice D2 b3.length p2, .slice D3 b4.length p3] 29))); have HB6 := am (zk0 HB5.out HB5.out.size hb3); have BA6 := am (BA5.out.below hb3); clear hb3 HB5 HR5 HS5 BA5; generalize w5.alloc _ = w6 at *; generalize w5.heap.size = gb at *; clear w4 w5
  go_wp2_with (fail)
  have HP : Aside0 (Calls Tryd.prog 97 #[.pointer (some ⟨ga, 0, none⟩), .pointer (some ⟨gb, 0, none⟩), .int .i64 3] w6 (DifPost w6 a1 (a2 * (b3.length : Int) + b2) (pairA (pairF 3) a3 b3) (pairN (b3.length : Int) a4 b4))) := by
   obtain ⟨W, hW, T1, T2, q1, q2, s0, s1, u0, u1⟩ := HT.out; exact ⟨pairs2_calls 3 w6 BA6.out BB.out q1 q2 hW T1 T2 s0 s1 u0 u1⟩
  (with_reducible refine HP.out.mono ?_); rintro e w7 ⟨v2, v3, rfl, hR, hS, hb⟩; generalize a2 * (b3.length : Int) + b2 = S0 at *; generalize pairA (pairF 3) a3 b3 = xa at *; generalize pairN (b3.length : Int) a4 b4 = xn at *; obtain ⟨E2, e2, hv2⟩ := Kd.zq0 hR; subst hv2; obtain ⟨E3, e3, hv3⟩ := Kd.yt0 hS; subst hv3; have HB7 := am (zk0 HB6.out HB6.out.size hb); have HI := am (IsS29.new w7 w7 E2 e2 E3 e3 a1 S0 xa xn (Below.refl _ _) (Kd.zx0 hR).2.2 (Kd.qg0 hS).2.2); clear hR hS hb HB6 BA6 BB HP HT
  go_upto_region 7 with (fail)
  go_wp2_with (fail)
  (with_reducible refine (zh0.calls k w7.heap.size a1 S0 xa xn t1 t2 t3 t4 w7 _ HI.out (zp0 (Below.refl _ _) _) H5.out).mono ?_); rintro e w9 ⟨v0, rfl, hR, hi, hb6, hk6⟩; have HB9 := am (zk0 HB7.out HB7.out.size hb6); clear HI hR hi hb6 hk6 HB7; go_wp2; go_ret2; exact ⟨rfl, HB9.out⟩
 ·rw [if_neg c0] at h; simp only [Option.some.injEq, Prod.mk.injEq] at h; obtain ⟨rfl, rfl⟩ := h; have c3b0 : (c == 0) = false := beq_eq_false_iff_ne.mpr c0; have c3b1 : (c != 0) = true := bne_iff_ne.mpr c0; clear c0; go_enter Tryd.func41, Tryd.ntmps41
  go_wp2_with (fail)
  generalize World.alloc _ _ = w3 at *; (with_reducible refine (two_calls w3 HG.out HH.out HC.out).mono ?_); rintro e w4 ⟨rfl, hb⟩; have HB4 := am (zk0 HB0.out HB0.out.size hb); clear hb; go_wp2; go_ret2; exact ⟨rfl, HB4.out⟩
def yn0.f (a0 : Int) (a1 : Int) (a2 : Int) : Option (Bool) := if a1 ≤ a0 then (some (decide (a0 ≤ a2))) else (some false)
theorem yn0.calls (a0 : Int) (a1 : Int) (a2 : Int) (r : Bool) (w : World) (h : yn0.f a0 a1 a2 = some r) :
  Calls Tryd.prog 85 #[.int .i64 a0, .int .i64 a1, .int .i64 a2] w fun e w' => e = .returned (.bool r) ∧ Drawn0 w w' := by
 have H : (if a1 ≤ a0 then (some (decide (a0 ≤ a2))) else (some false)) = some r := h; clear h; by_cases c4 : a1 ≤ a0
 ·rw [if_pos c4] at H; have c4b0 := decide_eq_true c4; clear c4; obtain rfl := Option.some.inj H; go_enter Tryd.func85, Tryd.ntmps85; go_wp2; go_ret; exact ⟨tF, tD⟩
 ·rw [if_neg c4] at H; have c4b0 := decide_eq_false c4; clear c4; obtain rfl := Option.some.inj H; go_enter Tryd.func85, Tryd.ntmps85; go_wp2; go_ret; exact ⟨tF, tD⟩
def xl0.f (a0 : Int) : Option (Bool) := (yn0.f a0 1 3).bind fun t184 => (some t184)
theorem xl0.calls (a0 : Int) (r : Bool) (w : World) (h : xl0.f a0 = some r) :
  Calls Tryd.prog 117 #[.int .i64 a0] w fun e w' => e = .returned (.bool r) ∧ Drawn0 w w' := by
 have H : ((yn0.f a0 1 3).bind fun t184 => (some t184)) = some r := h; clear h; replace H := Option.bind_eq_some_iff.mp H; obtain ⟨t184, A20, H⟩ := H; replace H : (some t184) = some r := H; have A2 := am A20; clear A20; obtain rfl := Option.some.inj H; go_enter Tryd.func117, Tryd.ntmps117
 go_wp2_with (first | ((with_reducible refine ya0 (f := 85) rfl ?_); refine goesLA (some 4) Tryd.func85 #[.int .i64 a0, .int .i64 1, .int .i64 3] rfl rfl rfl (h := ?_); (with_reducible refine (yn0.calls a0 1 3 t184 _ A2.out).mono ?_); rintro e w' ⟨rfl, ⟨nd, rfl⟩⟩; refine ⟨_, rfl, ?_⟩))
 go_ret; exact ⟨tF, tD⟩
mutual
def zb0.j0 : Nat → Int → Bool → Int → Int → List Bool → List (List Int) → Option (Bool)
 | 0, _, _, _, _, _, _ => none
 | k + 1, x3, x34, x187000, x187001, x187002, x187003 => if x34 = true then (some false) else (zb0.l0 k x3 x187003 (x187003.length : Int) 0 x187000 x187001 x187002 x187003)
def zb0.l0 : Nat → Int → List (List Int) → Int → Int → Int → Int → List Bool → List (List Int) → Option (Bool)
 | 0, _, _, _, _, _, _, _, _ => none
 | k + 1, x3, x36, x37, x38, x187000, x187001, x187002, x187003 => if x38 < x37 then (if 0 ≤ x38 then (if x38 < (x36.length : Int) then ((zo0.f k x187000).bind fun t191 => (if ((rd_L2 x36 x38).length : Int) = t191 then (zb0.l1 k x3 x36 x37 x38 (rd_L2 x36 x38) ((rd_L2 x36 x38).length : Int) 0 x187000 x187001 x187002 x187003) else (some false))) else (none)) else (none)) else (some true)
def zb0.l1 : Nat → Int → List (List Int) → Int → Int → List Int → Int → Int → Int → Int → List Bool → List (List Int) → Option (Bool)
 | 0, _, _, _, _, _, _, _, _, _, _, _ => none
 | k + 1, x3, x36, x37, x38, x48, x49, x50, x187000, x187001, x187002, x187003 => if x50 < x49 then (if 0 ≤ x50 then (if x50 < (x48.length : Int) then ((yn0.f (rd x48 x50) 0 (wrap64 (x3 - 1))).bind fun t193 => (if t193 = true then (zb0.l1 k x3 x36 x37 x38 x48 x49 (wrap64 (x50 + 1)) x187000 x187001 x187002 x187003) else (some false))) else (none)) else (none)) else (zb0.l0 k x3 x36 x37 (wrap64 (x38 + 1)) x187000 x187001 x187002 x187003)
end
def zb0.f (k : Nat) (a0_0 : Int) (a0_1 : Int) (l0_2 : List Bool) (l0_3 : List (List Int)) : Option (Bool) := (xl0.f a0_0).bind fun t187 => (if t187 = true then ((yn0.f (l0_2.length : Int) 1 150).bind fun t188 => (if t188 = true then (if (l0_3.length : Int) = (l0_2.length : Int) then ((yn0.f a0_1 0 (wrap64 ((l0_2.length : Int) - 1))).bind fun t189 => (zb0.j0 k (l0_2.length : Int) (!t189) a0_0 a0_1 l0_2 l0_3)) else (zb0.j0 k (l0_2.length : Int) true a0_0 a0_1 l0_2 l0_3)) else (zb0.j0 k (l0_2.length : Int) true a0_0 a0_1 l0_2 l0_3))) else (zb0.j0 k (l0_2.length : Int) true a0_0 a0_1 l0_2 l0_3))
theorem zb0.mono_l : ∀ k, (∀ y0 y1 y2 y3 y4 y5, LeO (zb0.j0 k y0 y1 y2 y3 y4 y5) (zb0.j0 (k + 1) y0 y1 y2 y3 y4 y5)) ∧ (∀ y0 y1 y2 y3 y4 y5 y6 y7, LeO (zb0.l0 k y0 y1 y2 y3 y4 y5 y6 y7) (zb0.l0 (k + 1) y0 y1 y2 y3 y4 y5 y6 y7)) ∧ (∀ y0 y1 y2 y3 y4 y5 y6 y7 y8 y9 y10, LeO (zb0.l1 k y0 y1 y2 y3 y4 y5 y6 y7 y8 y9 y10) (zb0.l1 (k + 1) y0 y1 y2 y3 y4 y5 y6 y7 y8 y9 y10))
 | 0 => ⟨fun _ _ _ _ _ _ r h => by simp [zb0.j0] at h, fun _ _ _ _ _ _ _ _ r h => by simp [zb0.l0] at h, fun _ _ _ _ _ _ _ _ _ _ _ r h => by simp [zb0.l1] at h⟩
 | k + 1 => by
  obtain ⟨ih0, ih1, ih2⟩ := zb0.mono_l k; refine ⟨?_, ?_, ?_⟩
  ·intro y0 y1 y2 y3 y4 y5; unfold zb0.j0
   repeat' first
   | (with_reducible exact ih0 _ _ _ _ _ _)
   | (with_reducible exact ih1 _ _ _ _ _ _ _ _)
   | (with_reducible exact ih2 _ _ _ _ _ _ _ _ _ _ _)
   | (with_reducible exact zo0.mono _ _)
   | (with_reducible exact LeO.refl _)
   | (with_reducible exact LeO.none _)
   | (with_reducible refine LeO.ite ?_ ?_)
   | (with_reducible refine LeO.bind ?_ (fun _ => ?_))
   | exact ih0 _ _ _ _ _ _
   | exact ih1 _ _ _ _ _ _ _ _
   | exact ih2 _ _ _ _ _ _ _ _ _ _ _
   | exact zo0.mono _ _
   | exact LeO.none _
   | refine LeO.ite ?_ ?_
   | refine LeO.bind ?_ (fun _ => ?_)
  ·intro y0 y1 y2 y3 y4 y5 y6 y7; unfold zb0.l0
   repeat' first
   | (with_reducible exact ih0 _ _ _ _ _ _)
   | (with_reducible exact ih1 _ _ _ _ _ _ _ _)
   | (with_reducible exact ih2 _ _ _ _ _ _ _ _ _ _ _)
   | (with_reducible exact zo0.mono _ _)
   | (with_reducible exact LeO.refl _)
   | (with_reducible exact LeO.none _)
   | (with_reducible refine LeO.ite ?_ ?_)
   | (with_reducible refine LeO.bind ?_ (fun _ => ?_))
   | exact ih0 _ _ _ _ _ _
   | exact ih1 _ _ _ _ _ _ _ _
   | exact ih2 _ _ _ _ _ _ _ _ _ _ _
   | exact zo0.mono _ _
   | exact LeO.none _
   | refine LeO.ite ?_ ?_
   | refine LeO.bind ?_ (fun _ => ?_)
  ·intro y0 y1 y2 y3 y4 y5 y6 y7 y8 y9 y10; unfold zb0.l1
   repeat' first
   | (with_reducible exact ih0 _ _ _ _ _ _)
   | (with_reducible exact ih1 _ _ _ _ _ _ _ _)
   | (with_reducible exact ih2 _ _ _ _ _ _ _ _ _ _ _)
   | (with_reducible exact zo0.mono _ _)
   | (with_reducible exact LeO.refl _)
   | (with_reducible exact LeO.none _)
   | (with_reducible refine LeO.ite ?_ ?_)
   | (with_reducible refine LeO.bind ?_ (fun _ => ?_))
   | exact ih0 _ _ _ _ _ _
   | exact ih1 _ _ _ _ _ _ _ _
   | exact ih2 _ _ _ _ _ _ _ _ _ _ _
   | exact zo0.mono _ _
   | exact LeO.none _
   | refine LeO.ite ?_ ?_
   | refine LeO.bind ?_ (fun _ => ?_)
theorem zb0.mono : ∀ a0 a1 a2 a3 k, LeO (zb0.f k a0 a1 a2 a3) (zb0.f (k + 1) a0 a1 a2 a3) := by
 intro a0 a1 a2 a3 k; obtain ⟨ih0, ih1, ih2⟩ := zb0.mono_l k; unfold zb0.f
 repeat' first
   | (with_reducible exact ih0 _ _ _ _ _ _)
   | (with_reducible exact ih1 _ _ _ _ _ _ _ _)
   | (with_reducible exact ih2 _ _ _ _ _ _ _ _ _ _ _)
   | (with_reducible exact zo0.mono _ _)
   | (with_reducible exact LeO.refl _)
   | (with_reducible exact LeO.none _)
   | (with_reducible refine LeO.ite ?_ ?_)
   | (with_reducible refine LeO.bind ?_ (fun _ => ?_))
   | exact ih0 _ _ _ _ _ _
   | exact ih1 _ _ _ _ _ _ _ _
   | exact ih2 _ _ _ _ _ _ _ _ _ _ _
   | exact zo0.mono _ _
   | exact LeO.none _
   | refine LeO.ite ?_ ?_
   | refine LeO.bind ?_ (fun _ => ?_)
theorem zb0.calls (k : Nat) (a0_0 : Int) (a0_1 : Int) (A0_2 : Option Addr) (c0_2 : Nat) (l0_2 : List Bool) (A0_3 : Option Addr) (c0_3 : Nat) (l0_3 : List (List Int)) (r : Bool) (w : World) (hr0_2 : Kd.C Kd.bool w A0_2 l0_2.length l0_2) (hc0_2 : l0_2.length ≤ c0_2) (hr0_3 : Kd.C (Kd.slice 2 (Kd.int .i64)) w A0_3 l0_3.length l0_3) (hc0_3 : l0_3.length ≤ c0_3) (h : zb0.f k a0_0 a0_1 l0_2 l0_3 = some r) :
  Calls Tryd.prog 65 #[.agg #[.int .i64 a0_0, .int .i64 a0_1, .slice A0_2 l0_2.length c0_2, .slice A0_3 l0_3.length c0_3]] w fun e w' => e = .returned (.bool r) ∧ Below w.heap.size w w' := by
 have hu29 := Tryd.underlying29; have HR0_2 := am hr0_2; have HC0_2 := am hc0_2; clear hr0_2 hc0_2; have HR0_3 := am hr0_3; have HC0_3 := am hc0_3; clear hr0_3 hc0_3; have HB := am (Below.refl w.heap.size w); have H : ((xl0.f a0_0).bind fun t187 => (if t187 = true then ((yn0.f (l0_2.length : Int) 1 150).bind fun t188 => (if t188 = true then (if (l0_3.length : Int) = (l0_2.length : Int) then ((yn0.f a0_1 0 (wrap64 ((l0_2.length : Int) - 1))).bind fun t189 => (zb0.j0 k (l0_2.length : Int) (!t189) a0_0 a0_1 l0_2 l0_3)) else (zb0.j0 k (l0_2.length : Int) true a0_0 a0_1 l0_2 l0_3)) else (zb0.j0 k (l0_2.length : Int) true a0_0 a0_1 l0_2 l0_3))) else (zb0.j0 k (l0_2.length : Int) true a0_0 a0_1 l0_2 l0_3))) = some r := h; clear h; have HC2 := am H; clear H; go_enter Tryd.func65, Tryd.ntmps65
 go_upto_region 2 with (first | ((with_reducible refine yd0 (N := 1) rfl ?_); (try (refine gate_guard (by rfl) ?_; dsimp only)); refine boxA 1 #[.int .i64 a0_0, .int .i64 a0_1, .slice A0_2 l0_2.length c0_2, .slice A0_3 l0_3.length c0_3] 29 rfl rfl (h := ?_); intro gb186 hg w3 hbox hb; have BK186 := am (hbox); have GW186 := am ((by rw [hg]; exact (zm0 (tB)) : w.heap.size ≤ gb186)); have GE186 := am ((by rw [hg]; exact (zm0 (tB)) : w.heap.size ≤ gb186)); replace HB := am (zt0 (tB) hb); clear hb hbox hg; have hcz4_0 : w3.cell? ⟨gb186, 0, none⟩ = some (.int .i64 a0_0) := (za0 BK186.out 0).trans rfl; have hcz4_1 : w3.cell? ⟨gb186, 1, none⟩ = some (.int .i64 a0_1) := (za0 BK186.out 1).trans rfl; have hcz4_2 : w3.cell? ⟨gb186, 2, none⟩ = some (.slice A0_2 l0_2.length c0_2) := (za0 BK186.out 2).trans rfl; have hcz4_3 : w3.cell? ⟨gb186, 3, none⟩ = some (.slice A0_3 l0_3.length c0_3) := (za0 BK186.out 3).trans rfl; have hfz4_0 := zd0 BK186.out 0; have hfz4_1 := zd0 BK186.out 1; have hfz4_2 := zd0 BK186.out 2; have hfz4_3 := zd0 BK186.out 3))
 (try simp only [Act.put, List.setIfInBounds_toArray, List.set_cons_zero, List.set_cons_succ])
 go_cut [34] (fun v34 wc => ∃ (kq : Nat) (x34_1 : Bool), v34 = .bool x34_1 ∧ Aside0 (zb0.j0 kq (l0_2.length : Int) x34_1 a0_0 a0_1 l0_2 l0_3 = some r) ∧ Aside0 (kq ≤ k) ∧ Aside0 (wc.heap[gb186]? = some (.cells #[.int .i64 a0_0, .int .i64 a0_1, (.slice A0_2 l0_2.length c0_2), (.slice A0_3 l0_3.length c0_3)] 29 (0, 0))) ∧ Aside0 (Below w.heap.size w wc))
 case first =>
  have H := HC2.out; clear HC2; replace H := Option.bind_eq_some_iff.mp H; obtain ⟨t187, A50, H⟩ := H; replace H : (if t187 = true then ((yn0.f (l0_2.length : Int) 1 150).bind fun t188 => (if t188 = true then (if (l0_3.length : Int) = (l0_2.length : Int) then ((yn0.f a0_1 0 (wrap64 ((l0_2.length : Int) - 1))).bind fun t189 => (zb0.j0 k (l0_2.length : Int) (!t189) a0_0 a0_1 l0_2 l0_3)) else (zb0.j0 k (l0_2.length : Int) true a0_0 a0_1 l0_2 l0_3)) else (zb0.j0 k (l0_2.length : Int) true a0_0 a0_1 l0_2 l0_3))) else (zb0.j0 k (l0_2.length : Int) true a0_0 a0_1 l0_2 l0_3)) = some r := H; have A5 := am A50; clear A50; by_cases c6 : t187 = true
  ·subst c6; (have H1 : ((yn0.f (l0_2.length : Int) 1 150).bind fun t188 => (if t188 = true then (if (l0_3.length : Int) = (l0_2.length : Int) then ((yn0.f a0_1 0 (wrap64 ((l0_2.length : Int) - 1))).bind fun t189 => (zb0.j0 k (l0_2.length : Int) (!t189) a0_0 a0_1 l0_2 l0_3)) else (zb0.j0 k (l0_2.length : Int) true a0_0 a0_1 l0_2 l0_3)) else (zb0.j0 k (l0_2.length : Int) true a0_0 a0_1 l0_2 l0_3))) = some r := by rw [if_pos rfl] at H; exact H); clear H; have H := H1; clear H1; replace H := Option.bind_eq_some_iff.mp H; obtain ⟨t188, A70, H⟩ := H; replace H : (if t188 = true then (if (l0_3.length : Int) = (l0_2.length : Int) then ((yn0.f a0_1 0 (wrap64 ((l0_2.length : Int) - 1))).bind fun t189 => (zb0.j0 k (l0_2.length : Int) (!t189) a0_0 a0_1 l0_2 l0_3)) else (zb0.j0 k (l0_2.length : Int) true a0_0 a0_1 l0_2 l0_3)) else (zb0.j0 k (l0_2.length : Int) true a0_0 a0_1 l0_2 l0_3)) = some r := H; have A7 := am A70; clear A70; by_cases c8 : t188 = true
   ·subst c8; (have H1 : (if (l0_3.length : Int) = (l0_2.length : Int) then ((yn0.f a0_1 0 (wrap64 ((l0_2.length : Int) - 1))).bind fun t189 => (zb0.j0 k (l0_2.length : Int) (!t189) a0_0 a0_1 l0_2 l0_3)) else (zb0.j0 k (l0_2.length : Int) true a0_0 a0_1 l0_2 l0_3)) = some r := by rw [if_pos rfl] at H; exact H); clear H; have H := H1; clear H1; by_cases c9 : (l0_3.length : Int) = (l0_2.length : Int)
    ·rw [if_pos c9] at H; have c9b0 : ((l0_3.length : Int) == (l0_2.length : Int)) = true := beq_iff_eq.mpr c9; have c9b1 : ((l0_3.length : Int) != (l0_2.length : Int)) = false := bne_eq_false_iff_eq.mpr c9
     have c9b2 : (l0_3.length == l0_2.length) = true := by first | simpa using c9 | (simp at c9 ⊢; omega)
     clear c9
     (first | rw [c9b0] | (simp only [i64_w, i32_w]; rw [c9b0]) | skip)
     replace H := Option.bind_eq_some_iff.mp H; obtain ⟨t189, A100, H⟩ := H; replace H : (zb0.j0 k (l0_2.length : Int) (!t189) a0_0 a0_1 l0_2 l0_3) = some r := H; have A10 := am A100; clear A100; have H' := am H; clear H; obtain ⟨hcz11_0, hcz11_1, hcz11_2, hcz11_3⟩ := bc4 BK186.out; obtain ⟨hfz11_0, hfz11_1, hfz11_2, hfz11_3⟩ := bf4 BK186.out
     go_wp2_with (first | ((with_reducible refine ya0 (f := 117) rfl ?_); refine goesLA (some 13) Tryd.func117 #[.int .i64 a0_0] rfl rfl rfl (h := ?_); (with_reducible refine (xl0.calls a0_0 true _ A5.out).mono ?_); rintro e w' ⟨rfl, ⟨nd, rfl⟩⟩; refine ⟨_, rfl, ?_⟩) | (go_at_call 85; (with_reducible refine (yn0.calls (l0_2.length : Int) 1 150 true _ A7.out).mono ?_); rintro e w' ⟨rfl, ⟨nd, rfl⟩⟩) | (go_at_call 85; (with_reducible refine (yn0.calls a0_1 0 (wrap64 ((l0_2.length : Int) - 1)) t189 _ A10.out).mono ?_); rintro e w' ⟨rfl, ⟨nd, rfl⟩⟩))
     go_meet
     case rel => exact ⟨_, (!t189), (tF), H', ⟨by first | omega | exact Nat.le_refl _⟩, ⟨by refine tBk ?_; exact BK186.out⟩, ⟨tB⟩⟩
    ·rw [if_neg c9] at H; have c9b0 : ((l0_3.length : Int) == (l0_2.length : Int)) = false := beq_eq_false_iff_ne.mpr c9; have c9b1 : ((l0_3.length : Int) != (l0_2.length : Int)) = true := bne_iff_ne.mpr c9
     have c9b2 : (l0_3.length == l0_2.length) = false := by first | simpa using c9 | (simp at c9 ⊢; omega)
     (first | rw [c9b0] | (simp only [i64_w, i32_w]; rw [c9b0]) | skip)
     have H' := am H; clear H; obtain ⟨hcz12_0, hcz12_1, hcz12_2, hcz12_3⟩ := bc4 BK186.out; obtain ⟨hfz12_0, hfz12_1, hfz12_2, hfz12_3⟩ := bf4 BK186.out
     go_wp2_with (first | ((with_reducible refine ya0 (f := 117) rfl ?_); refine goesLA (some 13) Tryd.func117 #[.int .i64 a0_0] rfl rfl rfl (h := ?_); (with_reducible refine (xl0.calls a0_0 true _ A5.out).mono ?_); rintro e w' ⟨rfl, ⟨nd, rfl⟩⟩; refine ⟨_, rfl, ?_⟩) | (go_at_call 85; (with_reducible refine (yn0.calls (l0_2.length : Int) 1 150 true _ A7.out).mono ?_); rintro e w' ⟨rfl, ⟨nd, rfl⟩⟩))
     go_meet
     case rel => exact ⟨_, (true), (tF), H', ⟨by first | omega | exact Nat.le_refl _⟩, ⟨by refine tBk ?_; exact BK186.out⟩, ⟨tB⟩⟩
   ·replace c8 := Bool.eq_false_iff.mpr c8; subst c8; (have H1 : (zb0.j0 k (l0_2.length : Int) true a0_0 a0_1 l0_2 l0_3) = some r := by rw [if_neg (show ¬ (false = true) by decide)] at H; exact H); clear H; have H := H1; clear H1; have H' := am H; clear H; obtain ⟨hcz13_0, hcz13_1, hcz13_2, hcz13_3⟩ := bc4 BK186.out; obtain ⟨hfz13_0, hfz13_1, hfz13_2, hfz13_3⟩ := bf4 BK186.out
    go_wp2_with (first | ((with_reducible refine ya0 (f := 117) rfl ?_); refine goesLA (some 13) Tryd.func117 #[.int .i64 a0_0] rfl rfl rfl (h := ?_); (with_reducible refine (xl0.calls a0_0 true _ A5.out).mono ?_); rintro e w' ⟨rfl, ⟨nd, rfl⟩⟩; refine ⟨_, rfl, ?_⟩) | (go_at_call 85; (with_reducible refine (yn0.calls (l0_2.length : Int) 1 150 false _ A7.out).mono ?_); rintro e w' ⟨rfl, ⟨nd, rfl⟩⟩))
    go_meet
    case rel => exact ⟨_, (true), (tF), H', ⟨by first | omega | exact Nat.le_refl _⟩, ⟨by refine tBk ?_; exact BK186.out⟩, ⟨tB⟩⟩
  ·replace c6 := Bool.eq_false_iff.mpr c6; subst c6; (have H1 : (zb0.j0 k (l0_2.length : Int) true a0_0 a0_1 l0_2 l0_3) = some r := by rw [if_neg (show ¬ (false = true) by decide)] at H; exact H); clear H; have H := H1; clear H1; have H' := am H; clear H; obtain ⟨hcz14_0, hcz14_1, hcz14_2, hcz14_3⟩ := bc4 BK186.out; obtain ⟨hfz14_0, hfz14_1, hfz14_2, hfz14_3⟩ := bf4 BK186.out
   go_wp2_with (first | ((with_reducible refine ya0 (f := 117) rfl ?_); refine goesLA (some 13) Tryd.func117 #[.int .i64 a0_0] rfl rfl rfl (h := ?_); (with_reducible refine (xl0.calls a0_0 false _ A5.out).mono ?_); rintro e w' ⟨rfl, ⟨nd, rfl⟩⟩; refine ⟨_, rfl, ?_⟩))
   go_meet
   case rel => exact ⟨_, (true), (tF), H', ⟨by first | omega | exact Nat.le_refl _⟩, ⟨by refine tBk ?_; exact BK186.out⟩, ⟨tB⟩⟩
 case rest =>
  clear HC2
  try clear c1; try clear p2; try clear c6; try clear p6; try clear c8; try clear c9; try clear c9b0; try clear c9b1; try clear c9b2; try clear c11; try clear hcz11_0; try clear hcz11_1; try clear hcz11_2; try clear hcz11_3; try clear hcz12_0; try clear hcz12_1; try clear hcz12_2; try clear hcz12_3; try clear hcz13_0; try clear hcz13_1; try clear hcz13_2; try clear hcz13_3; try clear hcz14_0; try clear hcz14_1; try clear hcz14_2; try clear hcz14_3; try clear hcz4_0; try clear hcz4_1; try clear hcz4_2; try clear hcz4_3; try clear hfz11_0; try clear hfz11_1; try clear hfz11_2; try clear hfz11_3; try clear hfz12_0; try clear hfz12_1; try clear hfz12_2; try clear hfz12_3; try clear hfz13_0; try clear hfz13_1; try clear hfz13_2; try clear hfz13_3; try clear hfz14_0; try clear hfz14_1; try clear hfz14_2; try clear hfz14_3; try clear hfz4_0; try clear hfz4_1; try clear hfz4_2; try clear hfz4_3
  obtain ⟨kq, x34_1, rfl, HA, HJ1, BK186, HB⟩ := hcut
  cases kq with
  | zero => exact absurd HA.out (by simp [zb0.j0])
  | succ kj1 =>
   have H := HA.out; clear HA; simp only [zb0.j0] at H; by_cases c15 : x34_1 = true
   ·subst c15; (have H1 : (some false) = some r := by rw [if_pos rfl] at H; exact H); clear H; have H := H1; clear H1; obtain rfl := Option.some.inj H; go_wp2; go_ret; exact ⟨tE, tB⟩
   ·replace c15 := Bool.eq_false_iff.mpr c15; subst c15; (have H1 : (zb0.l0 kj1 (l0_2.length : Int) l0_3 (l0_3.length : Int) 0 a0_0 a0_1 l0_2 l0_3) = some r := by rw [if_neg (show ¬ (false = true) by decide)] at H; exact H); clear H; have H := H1; clear H1; have H' := am H; clear H; obtain ⟨hcz16_0, hcz16_1, hcz16_2, hcz16_3⟩ := bc4 BK186.out; obtain ⟨hfz16_0, hfz16_1, hfz16_2, hfz16_3⟩ := bf4 BK186.out; go_wp2
    go_loopg [38] kj1 (fun kq v38 w' => ∃ (x38_2 : Int), v38 = .int .i64 x38_2 ∧ Aside0 (zb0.l0 kq (l0_2.length : Int) l0_3 (l0_3.length : Int) x38_2 a0_0 a0_1 l0_2 l0_3 = some r) ∧ Aside0 (kq ≤ kj1) ∧ Aside0 (w'.heap[gb186]? = some (.cells #[.int .i64 a0_0, .int .i64 a0_1, (.slice A0_2 l0_2.length c0_2), (.slice A0_3 l0_3.length c0_3)] 29 (0, 0))) ∧ Aside0 (Below w.heap.size w w'))
    case atStart => exact ⟨(0), (tF), H', ⟨Nat.le_refl _⟩, ⟨by refine tBk ?_; exact BK186.out⟩, ⟨tB⟩⟩
    case round =>
     clear H'
     try clear c1; try clear p2; try clear c6; try clear p6; try clear c8; try clear c9; try clear c9b0; try clear c9b1; try clear c9b2; try clear c11; try clear c15; try clear hcz11_0; try clear hcz11_1; try clear hcz11_2; try clear hcz11_3; try clear hcz12_0; try clear hcz12_1; try clear hcz12_2; try clear hcz12_3; try clear hcz13_0; try clear hcz13_1; try clear hcz13_2; try clear hcz13_3; try clear hcz14_0; try clear hcz14_1; try clear hcz14_2; try clear hcz14_3; try clear hcz16_0; try clear hcz16_1; try clear hcz16_2; try clear hcz16_3; try clear hcz4_0; try clear hcz4_1; try clear hcz4_2; try clear hcz4_3; try clear hfz11_0; try clear hfz11_1; try clear hfz11_2; try clear hfz11_3; try clear hfz12_0; try clear hfz12_1; try clear hfz12_2; try clear hfz12_3; try clear hfz13_0; try clear hfz13_1; try clear hfz13_2; try clear hfz13_3; try clear hfz14_0; try clear hfz14_1; try clear hfz14_2; try clear hfz14_3; try clear hfz16_0; try clear hfz16_1; try clear hfz16_2; try clear hfz16_3; try clear hfz4_0; try clear hfz4_1; try clear hfz4_2; try clear hfz4_3; try clear p2; try clear p6
     obtain ⟨x38_2, rfl, HA, HK2, BK186, HB⟩ := hrel
     cases gk with
     | zero => exact absurd HA.out (by simp [zb0.l0])
     | succ k2 =>
      have H := HA.out; clear HA; simp only [zb0.l0] at H; by_cases c17 : x38_2 < (l0_3.length : Int)
      ·rw [if_pos c17] at H; have c17b0 := decide_eq_true c17; clear c17; by_cases c18 : 0 ≤ x38_2
       ·rw [if_pos c18] at H; have c18b0 := decide_eq_true c18; clear c18; by_cases c19 : x38_2 < (l0_3.length : Int)
        ·rw [if_pos c19] at H; have c19b0 := decide_eq_true c19; clear c19; replace H := Option.bind_eq_some_iff.mp H; obtain ⟨t191, A200, H⟩ := H; replace H : (if ((rd_L2 l0_3 x38_2).length : Int) = t191 then (zb0.l1 k2 (l0_2.length : Int) l0_3 (l0_3.length : Int) x38_2 (rd_L2 l0_3 x38_2) ((rd_L2 l0_3 x38_2).length : Int) 0 a0_0 a0_1 l0_2 l0_3) else (some false)) = some r := H; have A20 := am A200; clear A200; by_cases c21 : ((rd_L2 l0_3 x38_2).length : Int) = t191
         ·rw [if_pos c21] at H; have c21b0 : (((rd_L2 l0_3 x38_2).length : Int) == t191) = true := beq_iff_eq.mpr c21; have c21b1 : (((rd_L2 l0_3 x38_2).length : Int) != t191) = false := bne_eq_false_iff_eq.mpr c21; clear c21; have H' := am H; clear H; have p190 : 0 ≤ (x38_2 : Int) := oA; have q190 : x38_2 < (l0_3.length : Int) := oA; obtain ⟨ad190, A190_0, c190_0, e190, hx190_0, hl190_0, hi190_0⟩ := at_L2 HR0_3.out x38_2 p190 q190; cases e190; replace hx190_0 := (HB.out.cell (World.block_lt_of_cell? w _ hx190_0)).trans hx190_0; have HR190_0 := am hi190_0; have HC190_0 := am hl190_0; clear hi190_0 hl190_0; replace p190 := eq_true p190; replace q190 := eq_true q190; obtain ⟨hcz22_0, hcz22_1, hcz22_2, hcz22_3⟩ := bc4 BK186.out; obtain ⟨hfz22_0, hfz22_1, hfz22_2, hfz22_3⟩ := bf4 BK186.out
          go_wp2_with (first | ((with_reducible refine ya0 (f := 118) rfl ?_); refine goesLA (some 46) Tryd.func118 #[.int .i64 a0_0] rfl rfl rfl (h := ?_); (with_reducible refine (zo0.calls k2 a0_0 t191 _ A20.out).mono ?_); rintro e w' ⟨rfl, ⟨nd, rfl⟩⟩; refine ⟨_, rfl, ?_⟩))
          go_loopg [50] k2 (fun kq v50 w' => ∃ (x50_3 : Int), v50 = .int .i64 x50_3 ∧ Aside0 (zb0.l1 kq (l0_2.length : Int) l0_3 (l0_3.length : Int) x38_2 (rd_L2 l0_3 x38_2) ((rd_L2 l0_3 x38_2).length : Int) x50_3 a0_0 a0_1 l0_2 l0_3 = some r) ∧ Aside0 (kq ≤ k2) ∧ Aside0 (w'.heap[gb186]? = some (.cells #[.int .i64 a0_0, .int .i64 a0_1, (.slice A0_2 l0_2.length c0_2), (.slice (some ad190) l0_3.length c0_3)] 29 (0, 0))) ∧ Aside0 (Below w.heap.size w w'))
          case atStart => exact ⟨(0), (tF), H', ⟨Nat.le_refl _⟩, ⟨by refine tBk ?_; exact BK186.out⟩, ⟨tB⟩⟩
          case round =>
           clear H'
           try clear c1; try clear p1; try clear q1; try clear hx1; try clear c2; try clear p2; try clear c6; try clear p6; try clear c8; try clear c9; try clear c9b0; try clear c9b1; try clear c9b2; try clear c11; try clear c15; try clear c17; try clear c17b0; try clear c18; try clear c18b0; try clear c19; try clear c19b0; try clear p19; try clear q19; try clear hx19; try clear c21; try clear c21b0; try clear c21b1; try clear hcz11_0; try clear hcz11_1; try clear hcz11_2; try clear hcz11_3; try clear hcz12_0; try clear hcz12_1; try clear hcz12_2; try clear hcz12_3; try clear hcz13_0; try clear hcz13_1; try clear hcz13_2; try clear hcz13_3; try clear hcz14_0; try clear hcz14_1; try clear hcz14_2; try clear hcz14_3; try clear hcz16_0; try clear hcz16_1; try clear hcz16_2; try clear hcz16_3; try clear hcz22_0; try clear hcz22_1; try clear hcz22_2; try clear hcz22_3; try clear hcz4_0; try clear hcz4_1; try clear hcz4_2; try clear hcz4_3; try clear hfz11_0; try clear hfz11_1; try clear hfz11_2; try clear hfz11_3; try clear hfz12_0; try clear hfz12_1; try clear hfz12_2; try clear hfz12_3; try clear hfz13_0; try clear hfz13_1; try clear hfz13_2; try clear hfz13_3; try clear hfz14_0; try clear hfz14_1; try clear hfz14_2; try clear hfz14_3; try clear hfz16_0; try clear hfz16_1; try clear hfz16_2; try clear hfz16_3; try clear hfz22_0; try clear hfz22_1; try clear hfz22_2; try clear hfz22_3; try clear hfz4_0; try clear hfz4_1; try clear hfz4_2; try clear hfz4_3; try clear hx190_0; try clear p190; try clear p2; try clear p6; try clear q190
           obtain ⟨x50_3, rfl, HA, HK3, BK186, HB⟩ := hrel
           cases gk with
           | zero => exact absurd HA.out (by simp [zb0.l1])
           | succ k3 =>
            have H := HA.out; clear HA; simp only [zb0.l1] at H; by_cases c23 : x50_3 < ((rd_L2 l0_3 x38_2).length : Int)
            ·rw [if_pos c23] at H; have c23b0 := decide_eq_true c23; clear c23; by_cases c24 : 0 ≤ x50_3
             ·rw [if_pos c24] at H; have c24b0 := decide_eq_true c24; clear c24; by_cases c25 : x50_3 < ((rd_L2 l0_3 x38_2).length : Int)
              ·rw [if_pos c25] at H; have c25b0 := decide_eq_true c25; clear c25; replace H := Option.bind_eq_some_iff.mp H; obtain ⟨t193, A260, H⟩ := H; replace H : (if t193 = true then (zb0.l1 k3 (l0_2.length : Int) l0_3 (l0_3.length : Int) x38_2 (rd_L2 l0_3 x38_2) ((rd_L2 l0_3 x38_2).length : Int) (wrap64 (x50_3 + 1)) a0_0 a0_1 l0_2 l0_3) else (some false)) = some r := H; have A26 := am A260; clear A260; by_cases c27 : t193 = true
               ·subst c27; (have H1 : (zb0.l1 k3 (l0_2.length : Int) l0_3 (l0_3.length : Int) x38_2 (rd_L2 l0_3 x38_2) ((rd_L2 l0_3 x38_2).length : Int) (wrap64 (x50_3 + 1)) a0_0 a0_1 l0_2 l0_3) = some r := by rw [if_pos rfl] at H; exact H); clear H; have H := H1; clear H1; have H' := am H; clear H; have p192 : 0 ≤ (x50_3 : Int) := oA; have q192 : x50_3 < ((rd_L2 l0_3 x38_2).length : Int) := oA; obtain ⟨ad192, e192, hx192_0⟩ := Kd.at_int HR190_0.out x50_3 p192 q192; cases e192; replace hx192_0 := (HB.out.cell (World.block_lt_of_cell? w _ hx192_0)).trans hx192_0; replace p192 := eq_true p192; replace q192 := eq_true q192
                go_wp2_with (first | ((with_reducible refine ya0 (f := 85) rfl ?_); refine goesLA (some 57) Tryd.func85 #[.int .i64 (rd (rd_L2 l0_3 x38_2) x50_3), .int .i64 0, .int .i64 (wrap64 ((l0_2.length : Int) - 1))] rfl rfl rfl (h := ?_); (with_reducible refine (yn0.calls (rd (rd_L2 l0_3 x38_2) x50_3) 0 (wrap64 ((l0_2.length : Int) - 1)) true _ A26.out).mono ?_); rintro e w' ⟨rfl, ⟨nd, rfl⟩⟩; refine ⟨_, rfl, ?_⟩))
                go_roundg k3
                case measure => have := HJ1.out; have := HK2.out; have := HK3.out; omega
                case rel => exact ⟨(wrap64 (x50_3 + 1)), (tF), H', ⟨by have := HJ1.out; have := HK2.out; have := HK3.out; omega⟩, ⟨by refine tBk ?_; exact BK186.out⟩, ⟨tB⟩⟩
               ·replace c27 := Bool.eq_false_iff.mpr c27; subst c27; (have H1 : (some false) = some r := by rw [if_neg (show ¬ (false = true) by decide)] at H; exact H); clear H; have H := H1; clear H1; obtain rfl := Option.some.inj H; have p192 : 0 ≤ (x50_3 : Int) := oA; have q192 : x50_3 < ((rd_L2 l0_3 x38_2).length : Int) := oA; obtain ⟨ad192, e192, hx192_0⟩ := Kd.at_int HR190_0.out x50_3 p192 q192; cases e192; replace hx192_0 := (HB.out.cell (World.block_lt_of_cell? w _ hx192_0)).trans hx192_0; replace p192 := eq_true p192; replace q192 := eq_true q192
                go_wp2_with (first | ((with_reducible refine ya0 (f := 85) rfl ?_); refine goesLA (some 57) Tryd.func85 #[.int .i64 (rd (rd_L2 l0_3 x38_2) x50_3), .int .i64 0, .int .i64 (wrap64 ((l0_2.length : Int) - 1))] rfl rfl rfl (h := ?_); (with_reducible refine (yn0.calls (rd (rd_L2 l0_3 x38_2) x50_3) 0 (wrap64 ((l0_2.length : Int) - 1)) false _ A26.out).mono ?_); rintro e w' ⟨rfl, ⟨nd, rfl⟩⟩; refine ⟨_, rfl, ?_⟩))
                go_ret; exact ⟨tE, tB⟩
              ·rw [if_neg c25] at H; exact absurd H (by simp)
             ·rw [if_neg c24] at H; exact absurd H (by simp)
            ·rw [if_neg c23] at H; have c23b0 := decide_eq_false c23; clear c23; have H' := am H; clear H; go_wp2; go_roundg k3
             case measure => have := HJ1.out; have := HK2.out; have := HK3.out; omega
             case rel => exact ⟨(wrap64 (x38_2 + 1)), (tF), H', ⟨by have := HJ1.out; have := HK2.out; have := HK3.out; omega⟩, ⟨by refine tBk ?_; exact BK186.out⟩, ⟨tB⟩⟩
         ·rw [if_neg c21] at H; have c21b0 : (((rd_L2 l0_3 x38_2).length : Int) == t191) = false := beq_eq_false_iff_ne.mpr c21; have c21b1 : (((rd_L2 l0_3 x38_2).length : Int) != t191) = true := bne_iff_ne.mpr c21; obtain rfl := Option.some.inj H; have p190 : 0 ≤ (x38_2 : Int) := oA; have q190 : x38_2 < (l0_3.length : Int) := oA; obtain ⟨ad190, A190_0, c190_0, e190, hx190_0, hl190_0, hi190_0⟩ := at_L2 HR0_3.out x38_2 p190 q190; cases e190; replace hx190_0 := (HB.out.cell (World.block_lt_of_cell? w _ hx190_0)).trans hx190_0; have HR190_0 := am hi190_0; have HC190_0 := am hl190_0; clear hi190_0 hl190_0; replace p190 := eq_true p190; replace q190 := eq_true q190; obtain ⟨hcz28_0, hcz28_1, hcz28_2, hcz28_3⟩ := bc4 BK186.out; obtain ⟨hfz28_0, hfz28_1, hfz28_2, hfz28_3⟩ := bf4 BK186.out
          go_wp2_with (first | ((with_reducible refine ya0 (f := 118) rfl ?_); refine goesLA (some 46) Tryd.func118 #[.int .i64 a0_0] rfl rfl rfl (h := ?_); (with_reducible refine (zo0.calls k2 a0_0 t191 _ A20.out).mono ?_); rintro e w' ⟨rfl, ⟨nd, rfl⟩⟩; refine ⟨_, rfl, ?_⟩))
          go_ret; exact ⟨tE, tB⟩
        ·rw [if_neg c19] at H; exact absurd H (by simp)
       ·rw [if_neg c18] at H; exact absurd H (by simp)
      ·rw [if_neg c17] at H; have c17b0 := decide_eq_false c17; clear c17; obtain rfl := Option.some.inj H; go_wp2; go_ret; exact ⟨tE, tB⟩
def zr0.j0 : Nat → Bool → Int → Int → List Bool → List (List Int) → Int → Int → List Bool → List (List Int) → Option (Int)
 | 0, _, _, _, _, _, _, _, _, _ => none
 | k + 1, x5, x195000, x195001, x195002, x195003, x196000, x196001, x196002, x196003 => if x5 = true then (some 1) else (if x195000 = x196000 then (some 0) else (some 2))
def zr0.f (k : Nat) (a0_0 : Int) (a0_1 : Int) (l0_2 : List Bool) (l0_3 : List (List Int)) (a1_0 : Int) (a1_1 : Int) (l1_2 : List Bool) (l1_3 : List (List Int)) : Option (Int) := (zb0.f k a0_0 a0_1 l0_2 l0_3).bind fun t196 => (if t196 = true then ((zb0.f k a1_0 a1_1 l1_2 l1_3).bind fun t197 => (zr0.j0 k (!t197) a0_0 a0_1 l0_2 l0_3 a1_0 a1_1 l1_2 l1_3)) else (zr0.j0 k true a0_0 a0_1 l0_2 l0_3 a1_0 a1_1 l1_2 l1_3))
theorem zr0.mono_l : ∀ k, (∀ y0 y1 y2 y3 y4 y5 y6 y7 y8, LeO (zr0.j0 k y0 y1 y2 y3 y4 y5 y6 y7 y8) (zr0.j0 (k + 1) y0 y1 y2 y3 y4 y5 y6 y7 y8))
 | 0 => fun _ _ _ _ _ _ _ _ _ r h => by simp [zr0.j0] at h
 | k + 1 => by
  have ih0 := zr0.mono_l k
  ·intro y0 y1 y2 y3 y4 y5 y6 y7 y8; unfold zr0.j0
   repeat' first
   | (with_reducible exact ih0 _ _ _ _ _ _ _ _ _)
   | (with_reducible exact zb0.mono _ _ _ _ _)
   | (with_reducible exact LeO.refl _)
   | (with_reducible exact LeO.none _)
   | (with_reducible refine LeO.ite ?_ ?_)
   | (with_reducible refine LeO.bind ?_ (fun _ => ?_))
   | exact ih0 _ _ _ _ _ _ _ _ _
   | exact zb0.mono _ _ _ _ _
   | exact LeO.none _
   | refine LeO.ite ?_ ?_
   | refine LeO.bind ?_ (fun _ => ?_)
theorem zr0.mono : ∀ a0 a1 a2 a3 a4 a5 a6 a7 k, LeO (zr0.f k a0 a1 a2 a3 a4 a5 a6 a7) (zr0.f (k + 1) a0 a1 a2 a3 a4 a5 a6 a7) := by
 intro a0 a1 a2 a3 a4 a5 a6 a7 k; have ih0 := zr0.mono_l k; unfold zr0.f
 repeat' first
   | (with_reducible exact ih0 _ _ _ _ _ _ _ _ _)
   | (with_reducible exact zb0.mono _ _ _ _ _)
   | (with_reducible exact LeO.refl _)
   | (with_reducible exact LeO.none _)
   | (with_reducible refine LeO.ite ?_ ?_)
   | (with_reducible refine LeO.bind ?_ (fun _ => ?_))
   | exact ih0 _ _ _ _ _ _ _ _ _
   | exact zb0.mono _ _ _ _ _
   | exact LeO.none _
   | refine LeO.ite ?_ ?_
   | refine LeO.bind ?_ (fun _ => ?_)
theorem zr0.calls (k : Nat) (a0_0 : Int) (a0_1 : Int) (A0_2 : Option Addr) (c0_2 : Nat) (l0_2 : List Bool) (A0_3 : Option Addr) (c0_3 : Nat) (l0_3 : List (List Int)) (a1_0 : Int) (a1_1 : Int) (A1_2 : Option Addr) (c1_2 : Nat) (l1_2 : List Bool) (A1_3 : Option Addr) (c1_3 : Nat) (l1_3 : List (List Int)) (r : Int) (w : World) (hr0_2 : Kd.C Kd.bool w A0_2 l0_2.length l0_2) (hc0_2 : l0_2.length ≤ c0_2) (hr0_3 : Kd.C (Kd.slice 2 (Kd.int .i64)) w A0_3 l0_3.length l0_3) (hc0_3 : l0_3.length ≤ c0_3) (hr1_2 : Kd.C Kd.bool w A1_2 l1_2.length l1_2) (hc1_2 : l1_2.length ≤ c1_2) (hr1_3 : Kd.C (Kd.slice 2 (Kd.int .i64)) w A1_3 l1_3.length l1_3) (hc1_3 : l1_3.length ≤ c1_3) (h : zr0.f k a0_0 a0_1 l0_2 l0_3 a1_0 a1_1 l1_2 l1_3 = some r) :
  Calls Tryd.prog 57 #[.agg #[.int .i64 a0_0, .int .i64 a0_1, .slice A0_2 l0_2.length c0_2, .slice A0_3 l0_3.length c0_3], .agg #[.int .i64 a1_0, .int .i64 a1_1, .slice A1_2 l1_2.length c1_2, .slice A1_3 l1_3.length c1_3]] w fun e w' => e = .returned (.int .i64 r) ∧ Below w.heap.size w w' := by
 have hu29 := Tryd.underlying29; have HR0_2 := am hr0_2; have HC0_2 := am hc0_2; clear hr0_2 hc0_2; have HR0_3 := am hr0_3; have HC0_3 := am hc0_3; clear hr0_3 hc0_3; have HR1_2 := am hr1_2; have HC1_2 := am hc1_2; clear hr1_2 hc1_2; have HR1_3 := am hr1_3; have HC1_3 := am hc1_3; clear hr1_3 hc1_3; have HB := am (Below.refl w.heap.size w); have H : ((zb0.f k a0_0 a0_1 l0_2 l0_3).bind fun t196 => (if t196 = true then ((zb0.f k a1_0 a1_1 l1_2 l1_3).bind fun t197 => (zr0.j0 k (!t197) a0_0 a0_1 l0_2 l0_3 a1_0 a1_1 l1_2 l1_3)) else (zr0.j0 k true a0_0 a0_1 l0_2 l0_3 a1_0 a1_1 l1_2 l1_3))) = some r := h; clear h; have HC3 := am H; clear H; go_enter Tryd.func57, Tryd.ntmps57
 go_upto_region 1 with (first | ((with_reducible refine yd0 (N := 2) rfl ?_); refine boxA 2 #[.int .i64 a0_0, .int .i64 a0_1, .slice A0_2 l0_2.length c0_2, .slice A0_3 l0_3.length c0_3] 29 rfl rfl (h := ?_); intro gb194 hg w4 hbox hb; have BK194 := am (hbox); have GW194 := am ((by rw [hg]; exact (zm0 (tB)) : w.heap.size ≤ gb194)); have GE194 := am ((by rw [hg]; exact (zm0 (tB)) : w.heap.size ≤ gb194)); replace HB := am (zt0 (tB) hb); clear hb hbox hg) | ((with_reducible refine yd0 (N := 3) rfl ?_); refine boxA 3 #[.int .i64 a1_0, .int .i64 a1_1, .slice A1_2 l1_2.length c1_2, .slice A1_3 l1_3.length c1_3] 29 rfl rfl (h := ?_); intro gb195 hg w5 hbox hb; have BK195 := am (hbox); have GW195 := am ((by rw [hg]; exact (zm0 (tB)) : w.heap.size ≤ gb195)); have GE195 := am ((by rw [hg]; exact (zm0 (tB)) : w.heap.size ≤ gb195)); have NB194_195 := am ((by rw [hg]; exact Nat.ne_of_lt (blk_lt (g := gb194) (o := .cells #[.int .i64 a0_0, .int .i64 a0_1, .slice A0_2 l0_2.length c0_2, .slice A0_3 l0_3.length c0_3] 29 (0, 0)) (tBk BK194.out)) : gb194 ≠ gb195)); have NB195_194 := am ((by rw [hg]; exact Nat.ne_of_gt (blk_lt (g := gb194) (o := .cells #[.int .i64 a0_0, .int .i64 a0_1, .slice A0_2 l0_2.length c0_2, .slice A0_3 l0_3.length c0_3] 29 (0, 0)) (tBk BK194.out)) : gb195 ≠ gb194)); replace BK194 := am (ze0 (g := gb194) (o := .cells #[.int .i64 a0_0, .int .i64 a0_1, .slice A0_2 l0_2.length c0_2, .slice A0_3 l0_3.length c0_3] 29 (0, 0)) (tBk BK194.out) hb); replace HB := am (zt0 (tB) hb); clear hb hbox hg))
 (try simp only [Act.put, List.setIfInBounds_toArray, List.set_cons_zero, List.set_cons_succ])
 go_cut [5] (fun v5 wc => ∃ (kq : Nat) (x5_2 : Bool), v5 = .bool x5_2 ∧ Aside0 (zr0.j0 kq x5_2 a0_0 a0_1 l0_2 l0_3 a1_0 a1_1 l1_2 l1_3 = some r) ∧ Aside0 (kq ≤ k) ∧ Aside0 (wc.heap[gb194]? = some (.cells #[.int .i64 a0_0, .int .i64 a0_1, (.slice A0_2 l0_2.length c0_2), (.slice A0_3 l0_3.length c0_3)] 29 (0, 0))) ∧ Aside0 (wc.heap[gb195]? = some (.cells #[.int .i64 a1_0, .int .i64 a1_1, (.slice A1_2 l1_2.length c1_2), (.slice A1_3 l1_3.length c1_3)] 29 (0, 0))) ∧ Aside0 (Below w.heap.size w wc))
 case first =>
  have H := HC3.out; clear HC3; replace H := Option.bind_eq_some_iff.mp H; obtain ⟨t196, A60, H⟩ := H; replace H : (if t196 = true then ((zb0.f k a1_0 a1_1 l1_2 l1_3).bind fun t197 => (zr0.j0 k (!t197) a0_0 a0_1 l0_2 l0_3 a1_0 a1_1 l1_2 l1_3)) else (zr0.j0 k true a0_0 a0_1 l0_2 l0_3 a1_0 a1_1 l1_2 l1_3)) = some r := H; have A6 := am A60; clear A60; by_cases c7 : t196 = true
  ·subst c7; (have H1 : ((zb0.f k a1_0 a1_1 l1_2 l1_3).bind fun t197 => (zr0.j0 k (!t197) a0_0 a0_1 l0_2 l0_3 a1_0 a1_1 l1_2 l1_3)) = some r := by rw [if_pos rfl] at H; exact H); clear H; have H := H1; clear H1; replace H := Option.bind_eq_some_iff.mp H; obtain ⟨t197, A80, H⟩ := H; replace H : (zr0.j0 k (!t197) a0_0 a0_1 l0_2 l0_3 a1_0 a1_1 l1_2 l1_3) = some r := H; have A8 := am A80; clear A80; have H' := am H; clear H; have hnb9 := NB194_195.out; have hnc9 := NB195_194.out; obtain ⟨hcz10_0, hcz10_1, hcz10_2, hcz10_3⟩ := bc4 BK194.out; obtain ⟨hfz10_0, hfz10_1, hfz10_2, hfz10_3⟩ := bf4 BK194.out
   go_wp2_with (first | ((with_reducible refine ya0 (f := 65) rfl ?_); refine goesLA (some 7) Tryd.func65 #[.agg #[.int .i64 a0_0, .int .i64 a0_1, .slice A0_2 l0_2.length c0_2, .slice A0_3 l0_3.length c0_3]] rfl rfl rfl (h := ?_); (with_reducible refine (zb0.calls k a0_0 a0_1 _ _ l0_2 _ _ l0_3 true _ ?side1 ?side2 ?side3 ?side4 A6.out).mono ?_); (case side1 => repeat (first | exact (Kd.zn0 HR0_2.out HB.out) | (with_reducible refine Kd.yv0 ?_ _) | (with_reducible refine Kd.yu0 ?_ _) | (with_reducible refine Kd.C_drew ?_))); (case side2 => exact HC0_2.out); (case side3 => repeat (first | exact (Kd.zn0 HR0_3.out HB.out) | (with_reducible refine Kd.yv0 ?_ _) | (with_reducible refine Kd.yu0 ?_ _) | (with_reducible refine Kd.C_drew ?_))); (case side4 => exact HC0_3.out); rintro e w11 ⟨rfl, hb⟩; refine ⟨_, rfl, ?_⟩; replace BK194 := am (ze0 (g := gb194) (o := .cells #[.int .i64 a0_0, .int .i64 a0_1, .slice A0_2 l0_2.length c0_2, .slice A0_3 l0_3.length c0_3] 29 (0, 0)) (tBk BK194.out) hb); replace BK195 := am (ze0 (g := gb195) (o := .cells #[.int .i64 a1_0, .int .i64 a1_1, .slice A1_2 l1_2.length c1_2, .slice A1_3 l1_3.length c1_3] 29 (0, 0)) (tBk BK195.out) hb); replace HB := am (zt0 (tB) hb); (try clear hb); (try clear hb2); (try clear hk); (try clear hi); have hcz12_0 : w11.cell? ⟨gb195, 0, none⟩ = some (.int .i64 a1_0) := (za0 BK195.out 0).trans rfl; have hcz12_1 : w11.cell? ⟨gb195, 1, none⟩ = some (.int .i64 a1_1) := (za0 BK195.out 1).trans rfl; have hcz12_2 : w11.cell? ⟨gb195, 2, none⟩ = some (.slice A1_2 l1_2.length c1_2) := (za0 BK195.out 2).trans rfl; have hcz12_3 : w11.cell? ⟨gb195, 3, none⟩ = some (.slice A1_3 l1_3.length c1_3) := (za0 BK195.out 3).trans rfl; have hfz12_0 := zd0 BK195.out 0; have hfz12_1 := zd0 BK195.out 1; have hfz12_2 := zd0 BK195.out 2; have hfz12_3 := zd0 BK195.out 3) | (go_at_call 65; (with_reducible refine (zb0.calls k a1_0 a1_1 _ _ l1_2 _ _ l1_3 t197 _ ?side1 ?side2 ?side3 ?side4 A8.out).mono ?_); (case side1 => repeat (first | exact (Kd.zn0 HR1_2.out HB.out) | (with_reducible refine Kd.yv0 ?_ _) | (with_reducible refine Kd.yu0 ?_ _) | (with_reducible refine Kd.C_drew ?_))); (case side2 => exact HC1_2.out); (case side3 => repeat (first | exact (Kd.zn0 HR1_3.out HB.out) | (with_reducible refine Kd.yv0 ?_ _) | (with_reducible refine Kd.yu0 ?_ _) | (with_reducible refine Kd.C_drew ?_))); (case side4 => exact HC1_3.out); rintro e w13 ⟨rfl, hb⟩; replace BK194 := am (ze0 (g := gb194) (o := .cells #[.int .i64 a0_0, .int .i64 a0_1, .slice A0_2 l0_2.length c0_2, .slice A0_3 l0_3.length c0_3] 29 (0, 0)) (tBk BK194.out) hb); replace BK195 := am (ze0 (g := gb195) (o := .cells #[.int .i64 a1_0, .int .i64 a1_1, .slice A1_2 l1_2.length c1_2, .slice A1_3 l1_3.length c1_3] 29 (0, 0)) (tBk BK195.out) hb); replace HB := am (zt0 (tB) hb); (try clear hb); (try clear hb2); (try clear hk); (try clear hi)))
   go_meet
   case rel => exact ⟨_, (!t197), (tF), H', ⟨by first | omega | exact Nat.le_refl _⟩, ⟨by refine tBk ?_; exact BK194.out⟩, ⟨by refine tBk ?_; exact BK195.out⟩, ⟨tB⟩⟩
  ·replace c7 := Bool.eq_false_iff.mpr c7; subst c7; (have H1 : (zr0.j0 k true a0_0 a0_1 l0_2 l0_3 a1_0 a1_1 l1_2 l1_3) = some r := by rw [if_neg (show ¬ (false = true) by decide)] at H; exact H); clear H; have H := H1; clear H1; have H' := am H; clear H; have hnb14 := NB194_195.out; have hnc14 := NB195_194.out; obtain ⟨hcz15_0, hcz15_1, hcz15_2, hcz15_3⟩ := bc4 BK194.out; obtain ⟨hfz15_0, hfz15_1, hfz15_2, hfz15_3⟩ := bf4 BK194.out
   go_wp2_with (first | ((with_reducible refine ya0 (f := 65) rfl ?_); refine goesLA (some 7) Tryd.func65 #[.agg #[.int .i64 a0_0, .int .i64 a0_1, .slice A0_2 l0_2.length c0_2, .slice A0_3 l0_3.length c0_3]] rfl rfl rfl (h := ?_); (with_reducible refine (zb0.calls k a0_0 a0_1 _ _ l0_2 _ _ l0_3 false _ ?side1 ?side2 ?side3 ?side4 A6.out).mono ?_); (case side1 => repeat (first | exact (Kd.zn0 HR0_2.out HB.out) | (with_reducible refine Kd.yv0 ?_ _) | (with_reducible refine Kd.yu0 ?_ _) | (with_reducible refine Kd.C_drew ?_))); (case side2 => exact HC0_2.out); (case side3 => repeat (first | exact (Kd.zn0 HR0_3.out HB.out) | (with_reducible refine Kd.yv0 ?_ _) | (with_reducible refine Kd.yu0 ?_ _) | (with_reducible refine Kd.C_drew ?_))); (case side4 => exact HC0_3.out); rintro e w16 ⟨rfl, hb⟩; refine ⟨_, rfl, ?_⟩; replace BK194 := am (ze0 (g := gb194) (o := .cells #[.int .i64 a0_0, .int .i64 a0_1, .slice A0_2 l0_2.length c0_2, .slice A0_3 l0_3.length c0_3] 29 (0, 0)) (tBk BK194.out) hb); replace BK195 := am (ze0 (g := gb195) (o := .cells #[.int .i64 a1_0, .int .i64 a1_1, .slice A1_2 l1_2.length c1_2, .slice A1_3 l1_3.length c1_3] 29 (0, 0)) (tBk BK195.out) hb); replace HB := am (zt0 (tB) hb); (try clear hb); (try clear hb2); (try clear hk); (try clear hi)))
   go_meet
   case rel => exact ⟨_, (true), (tF), H', ⟨by first | omega | exact Nat.le_refl _⟩, ⟨by refine tBk ?_; exact BK194.out⟩, ⟨by refine tBk ?_; exact BK195.out⟩, ⟨tB⟩⟩
 case rest =>
  clear HC3
  try clear c1; try clear p2; try clear c5; try clear c6; try clear c7; try clear c9; try clear c14; try clear hcz10_0; try clear hcz10_1; try clear hcz10_2; try clear hcz10_3; try clear hcz12_0; try clear hcz12_1; try clear hcz12_2; try clear hcz12_3; try clear hcz15_0; try clear hcz15_1; try clear hcz15_2; try clear hcz15_3; try clear hfz10_0; try clear hfz10_1; try clear hfz10_2; try clear hfz10_3; try clear hfz12_0; try clear hfz12_1; try clear hfz12_2; try clear hfz12_3; try clear hfz15_0; try clear hfz15_1; try clear hfz15_2; try clear hfz15_3
  obtain ⟨kq, x5_2, rfl, HA, HJ2, BK194, BK195, HB⟩ := hcut
  cases kq with
  | zero => exact absurd HA.out (by simp [zr0.j0])
  | succ kj2 =>
   have H := HA.out; clear HA; simp only [zr0.j0] at H; by_cases c17 : x5_2 = true
   ·subst c17; (have H1 : (some 1) = some r := by rw [if_pos rfl] at H; exact H); clear H; have H := H1; clear H1; obtain rfl := Option.some.inj H; go_wp2; go_ret; exact ⟨tE, tB⟩
   ·replace c17 := Bool.eq_false_iff.mpr c17; subst c17; (have H1 : (if a0_0 = a1_0 then (some 0) else (some 2)) = some r := by rw [if_neg (show ¬ (false = true) by decide)] at H; exact H); clear H; have H := H1; clear H1; by_cases c18 : a0_0 = a1_0
    ·rw [if_pos c18] at H; have c18b0 : (a0_0 == a1_0) = true := beq_iff_eq.mpr c18; have c18b1 : (a0_0 != a1_0) = false := bne_eq_false_iff_eq.mpr c18; clear c18; obtain rfl := Option.some.inj H; have hnb19 := NB194_195.out; have hnc19 := NB195_194.out; obtain ⟨hcz20_0, hcz20_1, hcz20_2, hcz20_3⟩ := bc4 BK194.out; obtain ⟨hfz20_0, hfz20_1, hfz20_2, hfz20_3⟩ := bf4 BK194.out; obtain ⟨hcz21_0, hcz21_1, hcz21_2, hcz21_3⟩ := bc4 BK195.out; obtain ⟨hfz21_0, hfz21_1, hfz21_2, hfz21_3⟩ := bf4 BK195.out; go_wp2; go_ret; exact ⟨tE, tB⟩
    ·rw [if_neg c18] at H; have c18b0 : (a0_0 == a1_0) = false := beq_eq_false_iff_ne.mpr c18; have c18b1 : (a0_0 != a1_0) = true := bne_iff_ne.mpr c18; obtain rfl := Option.some.inj H; have hnb22 := NB194_195.out; have hnc22 := NB195_194.out; obtain ⟨hcz23_0, hcz23_1, hcz23_2, hcz23_3⟩ := bc4 BK194.out; obtain ⟨hfz23_0, hfz23_1, hfz23_2, hfz23_3⟩ := bf4 BK194.out; obtain ⟨hcz24_0, hcz24_1, hcz24_2, hcz24_3⟩ := bc4 BK195.out; obtain ⟨hfz24_0, hfz24_1, hfz24_2, hfz24_3⟩ := bf4 BK195.out; go_wp2; go_ret; exact ⟨tE, tB⟩
def zj0.l0 : Nat → List Bool → Bool → Int → Int → Option (Int)
 | 0, _, _, _, _ => none
 | k + 1, x0, x1, x7, x8 => if x8 < x7 then (if 0 ≤ x8 then (if x8 < (x0.length : Int) then (if (x1 == (rdOf false x0 x8)) = true then (some x8) else (zj0.l0 k x0 x1 x7 (wrap64 (x8 + 1)))) else (none)) else (none)) else (some (-1))
def zj0.f (k : Nat) (l0 : List Bool) (a1 : Bool) : Option (Int) := zj0.l0 k l0 a1 (l0.length : Int) 0
theorem zj0.mono_l : ∀ k, (∀ y0 y1 y2 y3, LeO (zj0.l0 k y0 y1 y2 y3) (zj0.l0 (k + 1) y0 y1 y2 y3))
 | 0 => fun _ _ _ _ r h => by simp [zj0.l0] at h
 | k + 1 => by
  have ih0 := zj0.mono_l k
  ·intro y0 y1 y2 y3; unfold zj0.l0
   repeat' first
   | (with_reducible exact ih0 _ _ _ _)
   | (with_reducible exact LeO.refl _)
   | (with_reducible exact LeO.none _)
   | (with_reducible refine LeO.ite ?_ ?_)
   | (with_reducible refine LeO.bind ?_ (fun _ => ?_))
   | exact ih0 _ _ _ _
   | exact LeO.none _
   | refine LeO.ite ?_ ?_
   | refine LeO.bind ?_ (fun _ => ?_)
theorem zj0.mono : ∀ a0 a1 k, LeO (zj0.f k a0 a1) (zj0.f (k + 1) a0 a1) := by
 intro a0 a1 k; have ih0 := zj0.mono_l k; unfold zj0.f
 repeat' first
   | (with_reducible exact ih0 _ _ _ _)
   | (with_reducible exact LeO.refl _)
   | (with_reducible exact LeO.none _)
   | (with_reducible refine LeO.ite ?_ ?_)
   | (with_reducible refine LeO.bind ?_ (fun _ => ?_))
   | exact ih0 _ _ _ _
   | exact LeO.none _
   | refine LeO.ite ?_ ?_
   | refine LeO.bind ?_ (fun _ => ?_)
theorem zj0.calls (k : Nat) (A0 : Option Addr) (c0 : Nat) (l0 : List Bool) (a1 : Bool) (r : Int) (w : World) (hr0 : Kd.C Kd.bool w A0 l0.length l0) (hc0 : l0.length ≤ c0) (h : zj0.f k l0 a1 = some r) :
  Calls Tryd.prog 144 #[.slice A0 l0.length c0, .bool a1] w fun e w' => e = .returned (.int .i64 r) ∧ Drawn0 w w' := by
 have HR0 := am hr0; have HC0 := am hc0; clear hr0 hc0; have H : (zj0.l0 k l0 a1 (l0.length : Int) 0) = some r := h; clear h; have H' := am H; clear H; go_enter Tryd.func144, Tryd.ntmps144; go_wp2
 go_loopg [8] k (fun kq v8 w' => ∃ (x8_1 : Int), v8 = .int .i64 x8_1 ∧ Aside0 (zj0.l0 kq l0 a1 (l0.length : Int) x8_1 = some r) ∧ Aside0 (kq ≤ k) ∧ Drawn0 w w')
 case atStart => exact ⟨(0), (tF), H', ⟨Nat.le_refl _⟩, tD⟩
 case round =>
  clear H'
  try clear c1; try clear p2
  obtain ⟨x8_1, rfl, HA, HK1, ⟨m1, rfl⟩⟩ := hrel
  cases gk with
  | zero => exact absurd HA.out (by simp [zj0.l0])
  | succ k1 =>
   have H := HA.out; clear HA; simp only [zj0.l0] at H; by_cases c3 : x8_1 < (l0.length : Int)
   ·rw [if_pos c3] at H; have c3b0 := decide_eq_true c3; clear c3; by_cases c4 : 0 ≤ x8_1
    ·rw [if_pos c4] at H; have c4b0 := decide_eq_true c4; clear c4; by_cases c5 : x8_1 < (l0.length : Int)
     ·rw [if_pos c5] at H; have c5b0 := decide_eq_true c5; clear c5; by_cases c6 : (a1 == (rdOf false l0 x8_1)) = true
      ·rw [if_pos c6] at H; have c6b0 : (a1 == (rdOf false l0 x8_1)) = true := c6
       (try (have c6b1 : decide (a1 = (rdOf false l0 x8_1)) = true := by simpa using c6))
       (try (have c6b2 : (a1 == (rdOf false l0 x8_1)) = true := by simpa using c6))
       clear c6; obtain rfl := Option.some.inj H; have p881 : 0 ≤ (x8_1 : Int) := oA; have q881 : x8_1 < (l0.length : Int) := oA; obtain ⟨ad881, e881, hx881_0⟩ := Kd.xn0 HR0.out x8_1 p881 q881; cases e881; replace p881 := eq_true p881; replace q881 := eq_true q881; go_wp2; go_ret; exact ⟨tF, tD⟩
      ·rw [if_neg c6] at H; (have c6b0 : (a1 == (rdOf false l0 x8_1)) = false := by simpa using c6)
       (try (have c6b1 : decide (a1 = (rdOf false l0 x8_1)) = false := by simpa using c6))
       (try (have c6b2 : (a1 == (rdOf false l0 x8_1)) = false := by simpa using c6))
       (try (have c6b3 : ¬ (a1 = (rdOf false l0 x8_1)) := by simpa using c6))
       clear c6; have H' := am H; clear H; have p881 : 0 ≤ (x8_1 : Int) := oA; have q881 : x8_1 < (l0.length : Int) := oA; obtain ⟨ad881, e881, hx881_0⟩ := Kd.xn0 HR0.out x8_1 p881 q881; cases e881; replace p881 := eq_true p881; replace q881 := eq_true q881; go_wp2; go_roundg k1
       case measure => have := HK1.out; omega
       case rel => exact ⟨(wrap64 (x8_1 + 1)), (tF), H', ⟨by have := HK1.out; omega⟩, tD⟩
     ·rw [if_neg c5] at H; exact absurd H (by simp)
    ·rw [if_neg c4] at H; exact absurd H (by simp)
   ·rw [if_neg c3] at H; have c3b0 := decide_eq_false c3; clear c3; obtain rfl := Option.some.inj H; go_wp2; go_ret; exact ⟨tF, tD⟩
def zz0.f (k : Nat) (l0 : List Bool) (a1 : Bool) : Option (Bool) := (zj0.f k l0 a1).bind fun t882 => (some (decide (t882 ≥ 0)))
theorem zz0.mono : ∀ a0 a1 k, LeO (zz0.f k a0 a1) (zz0.f (k + 1) a0 a1) := by
 intro a0 a1 k; unfold zz0.f
 repeat' first
   | (with_reducible exact zj0.mono _ _ _)
   | (with_reducible exact LeO.refl _)
   | (with_reducible exact LeO.none _)
   | (with_reducible refine LeO.ite ?_ ?_)
   | (with_reducible refine LeO.bind ?_ (fun _ => ?_))
   | exact zj0.mono _ _ _
   | exact LeO.none _
   | refine LeO.ite ?_ ?_
   | refine LeO.bind ?_ (fun _ => ?_)
theorem zz0.calls (k : Nat) (A0 : Option Addr) (c0 : Nat) (l0 : List Bool) (a1 : Bool) (r : Bool) (w : World) (hr0 : Kd.C Kd.bool w A0 l0.length l0) (hc0 : l0.length ≤ c0) (h : zz0.f k l0 a1 = some r) :
  Calls Tryd.prog 132 #[.slice A0 l0.length c0, .bool a1] w fun e w' => e = .returned (.bool r) ∧ Drawn0 w w' := by
 have HR0 := am hr0; have HC0 := am hc0; clear hr0 hc0; have H : ((zj0.f k l0 a1).bind fun t882 => (some (decide (t882 ≥ 0)))) = some r := h; clear h; replace H := Option.bind_eq_some_iff.mp H; obtain ⟨t882, A30, H⟩ := H; replace H : (some (decide (t882 ≥ 0))) = some r := H; have A3 := am A30; clear A30; obtain rfl := Option.some.inj H; go_enter Tryd.func132, Tryd.ntmps132
 go_wp2_with (first | ((with_reducible refine ya0 (f := 144) rfl ?_); refine goesLA (some 7) Tryd.func144 #[.slice A0 l0.length c0, .bool a1] rfl rfl rfl (h := ?_); (with_reducible refine (zj0.calls k _ _ l0 a1 t882 _ ?side1 ?side2 A3.out).mono ?_); (case side1 => repeat (first | exact HR0.out | (with_reducible refine Kd.yv0 ?_ _) | (with_reducible refine Kd.yu0 ?_ _) | (with_reducible refine Kd.C_drew ?_))); (case side2 => exact HC0.out); rintro e w' ⟨rfl, ⟨nd, rfl⟩⟩; refine ⟨_, rfl, ?_⟩))
 go_ret; exact ⟨tF, tD⟩
def ym0.f (k : Nat) (a0_0 : Int) (a0_1 : Int) (l0_2 : List Bool) (l0_3 : List (List Int)) : Option (Bool) := (zz0.f k l0_2 true).bind fun t884 => (some (!t884))
theorem ym0.mono : ∀ a0 a1 a2 a3 k, LeO (ym0.f k a0 a1 a2 a3) (ym0.f (k + 1) a0 a1 a2 a3) := by
 intro a0 a1 a2 a3 k; unfold ym0.f
 repeat' first
   | (with_reducible exact zz0.mono _ _ _)
   | (with_reducible exact LeO.refl _)
   | (with_reducible exact LeO.none _)
   | (with_reducible refine LeO.ite ?_ ?_)
   | (with_reducible refine LeO.bind ?_ (fun _ => ?_))
   | exact zz0.mono _ _ _
   | exact LeO.none _
   | refine LeO.ite ?_ ?_
   | refine LeO.bind ?_ (fun _ => ?_)
theorem ym0.calls (k : Nat) (a0_0 : Int) (a0_1 : Int) (A0_2 : Option Addr) (c0_2 : Nat) (l0_2 : List Bool) (A0_3 : Option Addr) (c0_3 : Nat) (l0_3 : List (List Int)) (r : Bool) (w : World) (hr0_2 : Kd.C Kd.bool w A0_2 l0_2.length l0_2) (hc0_2 : l0_2.length ≤ c0_2) (hr0_3 : Kd.C (Kd.slice 3 (Kd.int .i64)) w A0_3 l0_3.length l0_3) (hc0_3 : l0_3.length ≤ c0_3) (h : ym0.f k a0_0 a0_1 l0_2 l0_3 = some r) :
  Calls Tryd.prog 101 #[.agg #[.int .i64 a0_0, .int .i64 a0_1, .slice A0_2 l0_2.length c0_2, .slice A0_3 l0_3.length c0_3]] w fun e w' => e = .returned (.bool r) ∧ Below w.heap.size w w' := by
 have hu64 := Tryd.underlying64; have HR0_2 := am hr0_2; have HC0_2 := am hc0_2; clear hr0_2 hc0_2; have HR0_3 := am hr0_3; have HC0_3 := am hc0_3; clear hr0_3 hc0_3; have HB := am (Below.refl w.heap.size w); have H : ((zz0.f k l0_2 true).bind fun t884 => (some (!t884))) = some r := h; clear h; replace H := Option.bind_eq_some_iff.mp H; obtain ⟨t884, A20, H⟩ := H; replace H : (some (!t884)) = some r := H; have A2 := am A20; clear A20; obtain rfl := Option.some.inj H; go_enter Tryd.func101, Tryd.ntmps101
 go_wp2_with (first | ((with_reducible refine yd0 (N := 1) rfl ?_); refine boxA 1 #[.int .i64 a0_0, .int .i64 a0_1, .slice A0_2 l0_2.length c0_2, .slice A0_3 l0_3.length c0_3] 64 rfl rfl (h := ?_); intro gb883 hg w3 hbox hb; have BK883 := am (hbox); have GW883 := am ((by rw [hg]; exact (zm0 (tB)) : w.heap.size ≤ gb883)); have GE883 := am ((by rw [hg]; exact (zm0 (tB)) : w.heap.size ≤ gb883)); replace HB := am (zt0 (tB) hb); clear hb hbox hg; have hcz4_0 : w3.cell? ⟨gb883, 0, none⟩ = some (.int .i64 a0_0) := (za0 BK883.out 0).trans rfl; have hcz4_1 : w3.cell? ⟨gb883, 1, none⟩ = some (.int .i64 a0_1) := (za0 BK883.out 1).trans rfl; have hcz4_2 : w3.cell? ⟨gb883, 2, none⟩ = some (.slice A0_2 l0_2.length c0_2) := (za0 BK883.out 2).trans rfl; have hcz4_3 : w3.cell? ⟨gb883, 3, none⟩ = some (.slice A0_3 l0_3.length c0_3) := (za0 BK883.out 3).trans rfl; have hfz4_0 := zd0 BK883.out 0; have hfz4_1 := zd0 BK883.out 1; have hfz4_2 := zd0 BK883.out 2; have hfz4_3 := zd0 BK883.out 3) | ((with_reducible refine ya0 (f := 132) rfl ?_); refine goesLA (some 5) Tryd.func132 #[.slice A0_2 l0_2.length c0_2, .bool true] rfl rfl rfl (h := ?_); (with_reducible refine (zz0.calls k _ _ l0_2 true t884 _ ?side1 ?side2 A2.out).mono ?_); (case side1 => repeat (first | exact (Kd.zn0 HR0_2.out HB.out) | (with_reducible refine Kd.yv0 ?_ _) | (with_reducible refine Kd.yu0 ?_ _) | (with_reducible refine Kd.C_drew ?_))); (case side2 => exact HC0_2.out); rintro e w' ⟨rfl, ⟨nd, rfl⟩⟩; refine ⟨_, rfl, ?_⟩))
 go_ret; exact ⟨tE, tB⟩
theorem equalIn_nil_bools (w : World) (d : Nat) (a : Option Addr) (l c : Nat) : (Op.equalIn (d + 1) 22 (.slice a l c) (.slice none 0 0)).run Tryd.prog w = .ok a.isNone w := by
 cases a <;> simp [Op.equalIn, run_underlying Tryd.underlying22]
theorem equal_nil_bools (w : World) (a : Option Addr) (l c : Nat) : (Op.equal 22 (.slice a l c) (.slice none 0 0)).run Tryd.prog w = .ok a.isNone w := equalIn_nil_bools w 9999 a l c
theorem eql_nil_bools (w : World) (a : Option Addr) (l c : Nat) : (binOp .eql 22 (.slice a l c) (.slice none 0 0)).run Tryd.prog w = .ok (.bool a.isNone) w := by
 simp [binOp, equal_nil_bools w a l c]
def yp0.f (l0 : List Bool) : Option (List Bool) := if l0.length ≤ 1000000000 then some l0 else none
theorem yp0.calls (A0 : Option Addr) (c0 : Nat) (l0 : List Bool) (r : List Bool) (w : World) (hr0 : Kd.C Kd.bool w A0 l0.length l0) (hc0 : l0.length ≤ c0) (h : yp0.f l0 = some r) :
  Calls Tryd.prog 119 #[.slice A0 l0.length c0] w fun e w' => ∃ v0_ : Value, e = .returned (v0_) ∧ Kd.R Kd.bool 4 w' w.heap.size (fun _ => True) v0_ r ∧ Below w.heap.size w w' := by
 unfold yp0.f at h; by_cases hl : l0.length ≤ 1000000000
 ·rw [if_pos hl] at h; obtain rfl := Option.some.inj h; clear h; have HR0 := am hr0; have HB := am (Below.refl w.heap.size w)
  cases A0 with
  | none =>
   obtain rfl : l0 = [] := by
    cases l0 with
    | nil => rfl
    | cons x t =>
     obtain ⟨ad, e, _⟩ := hr0.2.2 (by simp); cases e
   clear hr0 hl hc0; have hq := fun W' => eql_nil_bools W' none 0 c0; simp only [Option.isNone_none] at hq; go_enter Tryd.func119, Tryd.ntmps119; go_wp2; go_ret; exact ⟨_, rfl, Kd.R_nil _ _ _ _ _, by repeat (first | exact HB.out | apply zp0 | apply zg0 | apply yb0)⟩
  | some ad =>
   clear hr0 hc0; have HL := am hl; clear hl; have hq := fun W' => eql_nil_bools W' (some ad) l0.length c0; simp only [Option.isNone_some] at hq; go_enter Tryd.func119, Tryd.ntmps119
   go_wp2_with (first | ((with_reducible refine yd0 (N := 5) rfl ?_); refine Kd.R_lit Kd.bool _ 4 ?hg (N := 5) ?hd (xs := ([] : List Bool)) (inner := []) (ok := fun _ => True) (okp := fun _ => True) ?hr ?hp (fun _ hk => hk) trivial (Below.refl _ _) (Nat.le_refl _) (by simp) ?_; (case hd => rfl); (case hg => rfl); (case hr => first | (go_simp; done) | (go_simp; rfl)); (case hp => exact (Reps.none _ _)); intro v255 w2 ho3 hb hg_ hnew_; clear hg_ hnew_; have HO := am (Kd.yy0 ho3 (zm0 (by repeat (first | exact HB.out | apply zp0 | apply zg0 | apply yb0)))); have n1_ := am (zt0 (by repeat (first | exact HB.out | apply zp0 | apply zg0 | apply yb0)) hb); clear HB; have HB := n1_; clear n1_ hb ho3) | ((with_reducible refine zv0 (b := .append) (xs := #[.tmp 5, .tmp 6]) rfl ?_); at_builtin; refine Kd.R_append_rows Kd.bool (Rr := Kd.bool.K w2) (w0 := w) w.heap.size rfl (.tmp 5) (.tmp 6) 22 4 (.bool false) 1 rfl Tryd.underlying22 info4 rfl (by decide) (by omega) v255 [] l0 (some ad) l0.length c0 (fun _ => True) (fun k => ¬ (some k = v255.ownBlock)) rfl rfl ?aO ?aR ?aK ?aP (fun _ _ => trivial) ?aB ?aS ?aL ?_; (case aO => exact HO.out); (case aR => exact Kd.zn0 HR0.out HB.out); (case aK => exact (fun x cs hk => hk)); (case aP => exact (fun k hk => ⟨trivial, hk⟩)); (case aB => exact HB.out); (case aS => exact HB.out.size); (case aL => have := HL.out; simp; omega); intro v7 w7 ho hb hg hat; have HO7 := am ho; clear HO; have HO := HO7; clear HO7; clear HB; have HB := am hb; clear hb hg hat ho))
   go_ret; exact ⟨_, rfl, by simpa using HO.out, by repeat (first | exact HB.out | apply zp0 | apply zg0 | apply yb0)⟩
 ·rw [if_neg hl] at h; cases h
end Go.Proofs.YtocfcpicleomcaaDoor.X
