import Derived.Test.YtocfcpicleomcaaDoorFU7
import Derived.Test.YtocfcpicleomcaaDoorFU4
import Derived.Carry
import Derived.Outline
import Derived.Test.YtocfcpicleomcaaDoorFU2
import Derived.Test.YtocfcpicleomcaaDoorFU6
import Derived.Test.YtocfcpicleomcaaDoorFU3
namespace Go.Proofs.YtocfcpicleomcaaDoor.X
set_option maxHeartbeats 16000000
set_option maxRecDepth 100000
open Go.RowKit Go.Proofs.YtocfcpicleomcaaDoorW.PrintWords Go.Proofs.YtocfcpicleomcaaDoorW.PrintLast Go.Proofs.YtocfcpicleomcaaDoorW.PrintMore
set_option linter.unusedVariables false
set_option linter.unusedSimpArgs false
def jv0 (f : Bool → Bool → Bool) (l m : List Bool) : List Bool := l.flatMap fun a => m.map (f a)
def rowM (m : Int) (ra rb : List Int) : List Int := List.zipWith (fun p q => p * m + q) ra rb
def jx0 (m : Int) (l k : List (List Int)) : List (List Int) := l.flatMap fun ra => k.map (rowM m ra)
theorem qa3 (f : Bool → Bool → Bool) (l m : List Bool) (a : Bool) : jv0 f (l ++ [a]) m = jv0 f l m ++ m.map (f a) := by simp [jv0]
theorem xz3 (m : Int) (l k : List (List Int)) (a : List Int) : jx0 m (l ++ [a]) k = jx0 m l k ++ k.map (rowM m a) := by simp [jx0]
theorem zs1 (f : Bool → Bool → Bool) (l m : List Bool) : (jv0 f l m).length = l.length * m.length := by
 induction l with
 | nil => simp [jv0]
 | cons a l ih =>
  (have : jv0 f (a :: l) m = m.map (f a) ++ jv0 f l m := by simp [jv0]); rw [this, List.length_append, ih, List.length_map, List.length_cons, Nat.succ_mul, Nat.add_comm]
theorem jy1 (q : Int) (l m : List (List Int)) : (jx0 q l m).length = l.length * m.length := by
 induction l with
 | nil => simp [jx0]
 | cons a l ih =>
  (have : jx0 q (a :: l) m = m.map (rowM q a) ++ jx0 q l m := by simp [jx0]); rw [this, List.length_append, ih, List.length_map, List.length_cons, Nat.succ_mul, Nat.add_comm]
theorem qo1 {α β : Type} (f : α → β) (l : List α) (k : Nat) (h : k < l.length) : (l.take k).map f ++ [f l[k]] = (l.take (k + 1)).map f := by
 rw [← List.take_append_getElem h, List.map_append]; rfl
theorem jp3 (m : Int) (ra rb : List Int) (c : Nat) (h : c < ra.length) (h' : c < rb.length) : (rowM m ra rb).take c ++ [ra[c] * m + rb[c]] = (rowM m ra rb).take (c + 1) := by
 (have hl : c < (rowM m ra rb).length := by simp only [rowM, List.length_zipWith]; omega); rw [← List.take_append_getElem hl]; simp [rowM]
theorem jc3 {x : Int} (h0 : 0 ≤ x) (h1 : x ≤ 1000000000) : wrap64 x = x := by
 unfold wrap64; omega
/-- A number of a pair: no wrap. -/
theorem qo2 {p q : Int} {m : Nat} (p0 : 0 ≤ p) (p1 : p < 2000) (hm : m ≤ 2000) (q0 : 0 ≤ q) (q1 : q < 2000) : wrap64 (wrap64 (p * (m : Int)) + q) = p * (m : Int) + q := by
 have h0 : 0 ≤ p * (m : Int) := Int.mul_nonneg p0 (by omega); have h1 : p * (m : Int) ≤ 2000 * 2000 := Int.mul_le_mul (by omega) (by omega) (by omega) (by omega); rw [jc3 h0 (by omega), jc3 (by omega) (by omega)]
def yj3 (w : World) (r1 r2 : Int) (r3 : List Bool) (r4 : List (List Int)) (e : Ending) (w' : World) : Prop :=
 ∃ v2 v3 : Value, e = .returned (.agg #[.int .i64 r1, .int .i64 r2, v2, v3]) ∧ Kd.R Kd.bool 4 w' w.heap.size (fun _ => True) v2 r3 ∧ Kd.S (Kd.slice 2 (Kd.int .i64)) 42 w' w.heap.size (fun _ => True) v3 r4 ∧ Below w.heap.size w w'
def neB (a b : Bool) : Bool := a != b
theorem kk2 (w : World) {g h W : Nat} {t s : Int} {l2 : List Bool} {l3 : List (List Int)} {t' s' : Int} {l2' : List Bool} {l3' : List (List Int)} (H1 : yd1 w g t s l2 l3) (H2 : yd1 w h t' s' l2' l3') (hn : l2.length ≤ 2000) (hn' : l2'.length ≤ 2000) (hW : W ≤ 1000) (T1 : yp0 W l2.length l3) (T2 : yp0 W l2'.length l3') (s0 : 0 ≤ s) (s1 : s < (l2.length : Int)) (u0 : 0 ≤ s') (u1 : s' < (l2'.length : Int)) :
  Calls Tryd.prog 105 #[.pointer (some ⟨g, 0, none⟩), .pointer (some ⟨h, 0, none⟩)] w (yj3 w t (s * (l2'.length : Int) + s') (jv0 neB l2 l2') (jx0 (l2'.length : Int) l3 l3')) := by
 obtain ⟨A2, c2, A3, c3, b1, b2, b3, b4, b5⟩ := H1; obtain ⟨B2, d2, B3, d3, e1, e2, e3, e4, e5⟩ := H2; have HG := am b1; have HA := am b2; have HN := am b4; have HH := am e1; have HA' := am e2; have HN' := am e4; have HT := am (And.intro T1 T2); have HL := am (And.intro hn (And.intro hn' hW)); have HE0 := am (qo2 (p := s) (q := s') (m := l2'.length) s0 (by omega) hn' u0 (by omega)); clear b1 b2 b3 b4 b5 e1 e2 e3 e4 e5 T1 T2 hn hn' hW s0 s1 u0 u1; have HB0 := am (zx0 (Below.refl w.heap.size w) (.cells #[.int .i64 0, .int .i64 0, .slice none 0 0, .slice none 0 0] 29)); have HSP0 : zd0 (∃ own, Sep own (w.alloc (.cells #[.int .i64 0, .int .i64 0, .slice none 0 0, .slice none 0 0] 29)) [(1, blkP w.heap.size (.cells #[.int .i64 0, .int .i64 0, .slice none 0 0, .slice none 0 0] 29 (0, 0)))]) := ⟨fun k => if k = w.heap.size then 1 else 0, ⟨jp1 _ _, yt0 w _, if_pos rfl⟩, trivial⟩; go_enter Tryd.func105, Tryd.ntmps105
 go_upto_region 1 with (fail)
 generalize World.alloc _ _ = w2 at *; have x2 : w2.cell? ⟨h, 2, none⟩ = some (.slice B2 l2'.length d2) := (zh0 (zf0 HH.out HB0.out) 2).trans rfl; go_wp2; clear x2; have hbd : Below w2.heap.size w2 w2.drew := ye0 (Below.refl _ _); have HB := am (zn0 HB0.out HB0.out.size hbd); obtain ⟨own, hsp⟩ := HSP0.out; have HSp := am (hsp.below hbd); have hS : w2.drew.cell? ⟨g, 0, none⟩ = some (.int .i64 t) ∧ w2.drew.cell? ⟨g, 1, none⟩ = some (.int .i64 s) ∧ w2.drew.cell? ⟨h, 1, none⟩ = some (.int .i64 s') := ⟨(zh0 (zf0 HG.out HB.out) 0).trans rfl, (zh0 (zf0 HG.out HB.out) 1).trans rfl, (zh0 (zf0 HH.out HB.out) 1).trans rfl⟩; clear hbd hsp HSP0 HB0; refine qu0 (n := 18) (S := fun w' => w'.cell? ⟨g, 0, none⟩ = some (.int .i64 t) ∧ w'.cell? ⟨g, 1, none⟩ = some (.int .i64 s) ∧ w'.cell? ⟨h, 1, none⟩ = some (.int .i64 s')) (ds := []) #[false, false, false, false, false, false, false, false, false, false, false, false, false, false, false, false, false, false] (by kernel_rfl) rfl rfl hS (fun hHeld => ?_)
 generalize w2.drew = w3 at HSp HB hS hHeld ⊢
 refine zz0 0 (some 16) (bl 18 1) rfl rfl (h := ?_); refine zz0 1 (some 17) (bl 18 3) rfl rfl (h := ?_); refine zz0 2 (some 18) (bl 18 7) rfl rfl (h := ?_); refine xg1 3 (some 19) (bl 18 15) hHeld rfl rfl (h := ?_); refine zz0 4 (some 20) (bl 18 31) rfl rfl (h := ?_); refine zz0 5 (some 21) (bl 18 63) rfl rfl (h := ?_); refine zz0 6 (some 22) (bl 18 127) rfl rfl (h := ?_); refine xg1 7 (some 23) (bl 18 255) hHeld rfl rfl (h := ?_); refine zz0 8 (some 24) (bl 18 511) rfl rfl (h := ?_); refine zz0 9 (some 25) (bl 18 1023) rfl rfl (h := ?_); refine zz0 10 (some 26) (bl 18 2047) rfl rfl (h := ?_); refine zz0 11 (some 27) (bl 18 4095) rfl rfl (h := ?_); refine zz0 12 (some 28) (bl 18 8191) rfl rfl (h := ?_); refine xg1 13 (some 29) (bl 18 16383) hHeld rfl rfl (h := ?_); refine zz0 14 (some 30) (bl 18 32767) rfl rfl (h := ?_); refine zz0 15 (some 31) (bl 18 65535) rfl rfl (h := ?_); refine oneA 16 (some 6) (bl 18 131071) rfl rfl (fun K hK => ?_); refine zy1 (v := .pointer (some ⟨w3.heap.size, 0, none⟩)) (w1 := w3.alloc (.cells #[.int .i64 0, .int .i64 0, .slice none 0 0, .slice none 0 0] 29)) (by rfl) rfl ?_ ?_
 ·go_simp
 have hba : Below w3.heap.size w3 (w3.alloc (.cells #[.int .i64 0, .int .i64 0, .slice none 0 0, .slice none 0 0] 29)) := (Below.refl _ _).alloc (Nat.le_refl _) _; refine hK.out _ _ ⟨zc0 hba hHeld.1, zc0 hba hHeld.2.1, zc0 hba hHeld.2.2⟩ (fun hHeld2 => ?_); clear hK K; have HB4 := am (zn0 HB.out HB.out.size hba); have HOB := am (show w.heap.size ≤ w3.heap.size from HB.out.size); have HSp4 := am ((HSp.out.new (t := 2) hba (jp1 w3.heap.size (.cells #[.int .i64 0, .int .i64 0, .slice none 0 0, .slice none 0 0] 29 (0, 0))) ⟨yt0 w3 _, Nat.le_refl _⟩ rfl)); simp only [List.cons_append, List.nil_append] at HSp4; refine qk0 (h := ?_)
 generalize w3.alloc _ = w4 at HB4 HSp4 hHeld2 ⊢
 generalize w3.heap.size = ob at HSp4 HOB ⊢
 clear hba HB HSp hS hHeld w3 w2; have b5 := (HSp4.out.get (i := 1) rfl).1; obtain ⟨g0, g1, g2, g3⟩ := bc4 b5; obtain ⟨f0, f1, f2, f3⟩ := bf4 b5; have HSp6 := am ((((HSp4.out.setBlk 1 rfl 0 (.int .i64 t) rfl rfl).setBlk 1 rfl 1 (.int .i64 (wrap64 (wrap64 (s * (l2'.length : Int)) + s'))) rfl rfl).setBlk 1 rfl 2 (.slice none 0 0) rfl rfl).setBlk 1 rfl 3 (.slice none 0 0) rfl rfl); have HB6 := am ((((HB4.out.setCell (p := ⟨ob, 0, none⟩) HOB.out (.int .i64 t)).setCell (p := ⟨ob, 1, none⟩) HOB.out (.int .i64 (wrap64 (wrap64 (s * (l2'.length : Int)) + s')))).setCell (p := ⟨ob, 2, none⟩) HOB.out (.slice none 0 0)).setCell (p := ⟨ob, 3, none⟩) HOB.out (.slice none 0 0)); simp only [List.set_cons_succ, List.set_cons_zero] at HSp6; clear b5; refine oneA 17 none (bl 18 262143) rfl rfl (fun K hK => ?_); refine qb1 (w1 := (((w4.setCell ⟨ob, 0, none⟩ (.int .i64 t)).setCell ⟨ob, 1, none⟩ (.int .i64 (wrap64 (wrap64 (s * (l2'.length : Int)) + s')))).setCell ⟨ob, 2, none⟩ (.slice none 0 0)).setCell ⟨ob, 3, none⟩ (.slice none 0 0)) (by rfl) rfl ?_ ?_
 ·go_simp
  try simp only [jp0]
  try rfl
 refine hK.out _ _ ⟨(zh0 (zf0 HG.out HB6.out) 0).trans rfl, (zh0 (zf0 HG.out HB6.out) 1).trans rfl, (zh0 (zf0 HH.out HB6.out) 1).trans rfl⟩ (fun _ => ?_); clear hK K; refine kv0 (by kernel_rfl) ?_; clear g0 g1 g2 g3 f0 f1 f2 f3 HSp4 HB4 hHeld2
 generalize World.setCell _ _ _ = w6 at HSp6 HB6 ⊢
 rw [HE0.out] at HSp6; have HSp7 := am ((HSp6.out.snoc (t := 3) (kj0 Kd.bool 4 w.heap.size (.slice none 0 0) []) (Kd.zm1 _ _ _ _ _)).snoc (t := 4) (qg1 (Kd.slice 2 (Kd.int .i64)) 42 w.heap.size (.slice none 0 0) []) (Kd.jr1 _ _ _ _ _)); simp only [List.cons_append, List.nil_append] at HSp7; clear HSp6 HE0
 generalize hS0 : s * (l2'.length : Int) + s' = S0 at HSp7 ⊢
 have HS0 := am hS0; clear hS0
 try simp only [jp0]
 go_wp2
 go_loopg [7] l2.length (fun kq v7 w' => ∃ (i : Nat) (own : Nat → Nat) (va vr : Value), v7 = .int .i64 (i : Int) ∧ zd0 (i + kq = l2.length) ∧ zd0 (Below w.heap.size w w') ∧ zd0 (Sep own w' [(1, blkP w.heap.size (.cells #[.int .i64 0, .int .i64 0, .slice none 0 0, .slice none 0 0] 29 (0, 0))), (2, blkP ob (.cells #[.int .i64 t, .int .i64 S0, va, vr] 29 (0, 0))), (3, rowP Kd.bool 4 w.heap.size va (jv0 neB (l2.take i) l2')), (4, yr1 (Kd.slice 2 (Kd.int .i64)) 42 w.heap.size vr (jx0 (l2'.length : Int) (l3.take i) l3'))]))
 case atStart => exact ⟨0, _, _, _, rfl, ⟨by omega⟩, HB6, HSp7⟩
 case round =>
  clear HB6 HSp7 own; obtain ⟨i, own, va, vr, rfl, HK, HB, HSp⟩ := hrel; have x2 : wr.cell? ⟨g, 2, none⟩ = some (.slice A2 l2.length c2) := (zh0 (zf0 HG.out HB.out) 2).trans rfl
  cases gk with
  | zero =>
   (have hi : i = l2.length := by have := HK.out; omega); have c1 : decide ((i : Int) < (l2.length : Int)) = false := decide_eq_false (by omega); have c2_ : decide (i < l2.length) = false := decide_eq_false (by omega); obtain ⟨D2, q2, hva⟩ := Kd.zq0 (HSp.out.get (i := 2) rfl); subst hva; obtain ⟨D3, q3, hvr⟩ := Kd.xc0 (HSp.out.get (i := 3) rfl); subst hvr; (have e2 : jv0 neB (l2.take i) l2' = jv0 neB l2 l2' := by rw [List.take_of_length_le (by omega)]); (have e3 : jx0 (l2'.length : Int) (l3.take i) l3' = jx0 (l2'.length : Int) l3 l3' := by rw [List.take_of_length_le (by have := HT.out.1.1; omega)]); rw [e2, e3] at HSp; have b3 := (HSp.out.get (i := 1) rfl).1; have b0 := (HSp.out.get (i := 0) rfl).1; clear e2 e3; generalize jv0 neB l2 l2' = bs at *; generalize jx0 (l2'.length : Int) l3 l3' = rs at *; obtain ⟨y0, y1, y2, y3⟩ := bc4 b3; obtain ⟨n0, n1, n2, n3⟩ := bc4 b0; obtain ⟨f0, f1, f2, f3⟩ := bf4 b0; have HSpE := am ((((HSp.out.setBlk 0 rfl 0 (.int .i64 t) rfl rfl).setBlk 0 rfl 1 (.int .i64 S0) rfl rfl).setBlk 0 rfl 2 (.slice D2 bs.length q2) rfl rfl).setBlk 0 rfl 3 (.slice D3 rs.length q3) rfl rfl); have HBE := am ((((HB.out.setCell (p := ⟨w.heap.size, 0, none⟩) (Nat.le_refl _) (.int .i64 t)).setCell (p := ⟨w.heap.size, 1, none⟩) (Nat.le_refl _) (.int .i64 S0)).setCell (p := ⟨w.heap.size, 2, none⟩) (Nat.le_refl _) (.slice D2 bs.length q2)).setCell (p := ⟨w.heap.size, 3, none⟩) (Nat.le_refl _) (.slice D3 rs.length q3)); simp only [List.set_cons_succ, List.set_cons_zero] at HSpE; have E2 := am (Kd.yl0 (HSpE.out.get (i := 2) rfl) (fun _ _ => trivial) : Kd.R Kd.bool 4 _ w.heap.size (fun _ => True) (.slice D2 bs.length q2) bs); have E3 := am (Kd.qh0 (HSpE.out.get (i := 3) rfl) (fun _ _ => trivial) : Kd.S (Kd.slice 2 (Kd.int .i64)) 42 _ w.heap.size (fun _ => True) (.slice D3 rs.length q3) rs); clear b3 b0 HSp HSpE HB; go_wp2; refine bodyPost_ret (v := .agg #[.int .i64 t, .int .i64 S0, .slice D2 bs.length q2, .slice D3 rs.length q3]) (by simp [results, Tryd.results105, go_sem, n0, n1, n2, n3]) rfl ⟨_, _, by rw [HS0.out], E2.out, E3.out, HBE.out⟩
  | succ k1 =>
   (have hi : i < l2.length := by have := HK.out; omega); (have hi3 : i < l3.length := by have := HT.out.1.1; omega); have c1 : decide ((i : Int) < (l2.length : Int)) = true := decide_eq_true (by omega); have c2_ : decide (i < l2.length) = true := decide_eq_true (by omega); have tk2 : l2.take i ++ [l2[i]] = l2.take (i + 1) := List.take_append_getElem hi; have tk3 : l3.take i ++ [l3[i]] = l3.take (i + 1) := List.take_append_getElem hi3; obtain ⟨ad1, Ar, cr, ea1, hx1, hlr, hCr⟩ := ym1 HN.out (i : Int) (by omega) (by omega); rw [show rdR l3 (i : Int) = l3[i] by simp [rdR, rdOf, List.getD_eq_getElem?_getD, List.getElem?_eq_getElem hi3]] at hx1 hlr hCr; obtain ⟨adA, eaA, hxA⟩ := Kd.ql0 HA.out (i : Int) (by omega) (by omega); rw [show rdOf false l2 (i : Int) = l2[i] by simp [rdOf, List.getD_eq_getElem?_getD, List.getElem?_eq_getElem hi]] at hxA; simp only [Int.toNat_natCast] at hx1 hxA; subst ea1; subst eaA; have hra : l3[i].length = W ∧ ∀ x ∈ l3[i], 0 ≤ x ∧ x < (l2.length : Int) := HT.out.1.2 _ (List.getElem_mem hi3); generalize l2[i] = a at *; generalize l3[i] = ra at *; have TK := am (And.intro tk2 tk3); have HX1 := am hx1; have HXA := am hxA; have HCR := am hCr; have HRA := am hra; have HI := am (And.intro hi hi3); clear tk2 tk3 hx1 hxA hlr hCr hra; go_wp2; clear x2 c1 c2_
   go_loopg [8] l2'.length (fun kq v8 w' => ∃ (k : Nat) (own : Nat → Nat) (va vr : Value) (bs : List Bool) (rs : List (List Int)), v8 = .int .i64 (k : Int) ∧ zd0 (k + kq = l2'.length) ∧ zd0 (Below w.heap.size w w') ∧ zd0 (Sep own w' [(1, blkP w.heap.size (.cells #[.int .i64 0, .int .i64 0, .slice none 0 0, .slice none 0 0] 29 (0, 0))), (2, blkP ob (.cells #[.int .i64 t, .int .i64 S0, va, vr] 29 (0, 0))), (3, rowP Kd.bool 4 w.heap.size va bs), (4, yr1 (Kd.slice 2 (Kd.int .i64)) 42 w.heap.size vr rs)]) ∧ zd0 (bs = jv0 neB (l2.take i) l2' ++ (l2'.take k).map (neB a) ∧ rs = jx0 (l2'.length : Int) (l3.take i) l3' ++ (l3'.take k).map (rowM (l2'.length : Int) ra)))
   case atStart => exact ⟨0, own, va, vr, _, _, rfl, ⟨by omega⟩, HB, HSp, ⟨by simp, by simp⟩⟩
   case round =>
    clear HB HSp own va vr; obtain ⟨k, own, va, vr, bs, rs, rfl, HK2, HB, HSp, HE⟩ := hrel; have z2 : wr.cell? ⟨h, 2, none⟩ = some (.slice B2 l2'.length d2) := (zh0 (zf0 HH.out HB.out) 2).trans rfl
    cases gk with
    | zero =>
     (have hk : k = l2'.length := by have := HK2.out; omega); have c1 : decide ((k : Int) < (l2'.length : Int)) = false := decide_eq_false (by omega); have c2_ : decide (k < l2'.length) = false := decide_eq_false (by omega); (have hE2 : bs = jv0 neB (l2.take (i + 1)) l2' := by rw [HE.out.1, List.take_of_length_le (l := l2') (i := k) (by omega), ← TK.out.1, qa3]); (have hE3 : rs = jx0 (l2'.length : Int) (l3.take (i + 1)) l3' := by rw [HE.out.2, List.take_of_length_le (l := l3') (i := k) (by have := HT.out.2.1; omega), ← TK.out.2, xz3]); subst hE2; subst hE3; clear HE; (have hil : i < 2000 := by have := HI.out.1; have := HL.out.1; omega); go_wp2; go_roundg k1
     case measure => omega
     case rel => exact ⟨i + 1, own, va, vr, by go_num, ⟨by have := HK.out; omega⟩, HB, HSp⟩
    | succ k2 =>
     (have hk : k < l2'.length := by have := HK2.out; omega); (have hk3 : k < l3'.length := by have := HT.out.2.1; omega); have c1 : decide ((k : Int) < (l2'.length : Int)) = true := decide_eq_true (by omega); have c2_ : decide (k < l2'.length) = true := decide_eq_true (by omega); have tk2 := qo1 (neB a) l2' k hk; have tk3 := qo1 (rowM (l2'.length : Int) ra) l3' k hk3; obtain ⟨ad3, Br, dr, ea3, hx3, hls, hCs⟩ := ym1 HN'.out (k : Int) (by omega) (by omega); rw [show rdR l3' (k : Int) = l3'[k] by simp [rdR, rdOf, List.getD_eq_getElem?_getD, List.getElem?_eq_getElem hk3]] at hx3 hls hCs; obtain ⟨adB, eaB, hxB⟩ := Kd.ql0 HA'.out (k : Int) (by omega) (by omega); rw [show rdOf false l2' (k : Int) = l2'[k] by simp [rdOf, List.getD_eq_getElem?_getD, List.getElem?_eq_getElem hk]] at hxB; simp only [Int.toNat_natCast] at hx3 hxB; subst ea3; subst eaB; have hrb : l3'[k].length = W ∧ ∀ x ∈ l3'[k], 0 ≤ x ∧ x < (l2'.length : Int) := HT.out.2.2 _ (List.getElem_mem hk3); generalize l2'[k] = b at *; generalize l3'[k] = rb at *; have TK2 := am (And.intro tk2 tk3); have HX3 := am hx3; have HXB := am hxB; have HCS := am hCs; have HRB := am hrb; have HI2 := am (And.intro hk hk3)
     have HLE := am (show bs.length ≤ 4002000 ∧ rs.length ≤ 4002000 by
      have h1 : l2.length * l2'.length ≤ 2000 * 2000 := Nat.mul_le_mul HL.out.1 HL.out.2.1; have h2 : i * l2'.length ≤ l2.length * l2'.length := Nat.mul_le_mul (by omega) (Nat.le_refl _); have h3 := HT.out.1.1; have h4 := HT.out.2.1; refine ⟨?_, ?_⟩
      ·rw [HE.out.1, List.length_append, zs1, List.length_map, List.length_take, List.length_take, Nat.min_eq_left (by omega), Nat.min_eq_left (by omega)]; have := HL.out.2.1; omega
      ·rw [HE.out.2, List.length_append, jy1, List.length_map, List.length_take, List.length_take, Nat.min_eq_left (by omega), Nat.min_eq_left (by omega), h4]; have := HL.out.2.1; omega)
     clear tk2 tk3 hx3 hxB hls hCs hrb; go_wp2; clear z2 c1 c2_; have hb1 : Below wr.heap.size wr (wr.alloc (.cells #[] 2)) := (Below.refl _ _).alloc (Nat.le_refl _) _; have HS1 := am (HSp.out.new (t := 5) hb1 (kj0 (Kd.int .i64) 2 w.heap.size (.slice (some ⟨wr.heap.size, 0, none⟩) 0 0) []) (yc2 (Kd.int .i64) 2 w.heap.size wr _ HB.out.size (Nat.le_refl _)) rfl); have HB1 := am (zn0 HB.out HB.out.size hb1); simp only [List.cons_append, List.nil_append] at HS1; clear hb1 HSp HB
     go_loopg [9, 10] W (fun kq v9 v10 w' => ∃ (own : Nat → Nat) (row : List Int) (c : Nat), v10 = .int .i64 (c : Int) ∧ zd0 (c + kq = W) ∧ zd0 (Below w.heap.size w w') ∧ zd0 (Sep own w' [(1, blkP w.heap.size (.cells #[.int .i64 0, .int .i64 0, .slice none 0 0, .slice none 0 0] 29 (0, 0))), (2, blkP ob (.cells #[.int .i64 t, .int .i64 S0, va, vr] 29 (0, 0))), (3, rowP Kd.bool 4 w.heap.size va bs), (4, yr1 (Kd.slice 2 (Kd.int .i64)) 42 w.heap.size vr rs), (5, rowP (Kd.int .i64) 2 w.heap.size v9 row)]) ∧ zd0 (row = (rowM (l2'.length : Int) ra rb).take c))
     case atStart => exact ⟨_, [], 0, rfl, ⟨by omega⟩, HB1, HS1, ⟨by simp⟩⟩
     case round =>
      clear HB1 HS1 own; obtain ⟨own, row, c, rfl, HK3, HB, HSp, HR⟩ := hrel; have m3 : wr.cell? ⟨g, 3, none⟩ = some (.slice (some ad1) l3.length c3) := (zh0 (zf0 HG.out HB.out) 3).trans rfl; have x1 := zc0 HB.out HX1.out; have p1 : (i < l3.length) = True := eq_true HI.out.2
      cases gk with
      | zero =>
       (have hc : c = W := by have := HK3.out; omega); have c1 : decide ((c : Int) < (ra.length : Int)) = false := decide_eq_false (by have := HRA.out.1; omega); have c2_ : decide (c < ra.length) = false := decide_eq_false (by have := HRA.out.1; omega); (have hrow : row = rowM (l2'.length : Int) ra rb := by rw [HR.out, List.take_of_length_le (by simp only [rowM, List.length_zipWith]; have := HRA.out.1; have := HRB.out.1; omega)]); subst hrow; obtain ⟨A2v, cva, hva⟩ := Kd.zq0 (HSp.out.get (i := 2) rfl); subst hva; have p2 : (i < l2.length) = True := eq_true HI.out.1; have p3 : (k < l2'.length) = True := eq_true HI2.out.1; have hbd : Below wr.heap.size wr wr.drew := ye0 (Below.refl _ _); have HSp3 := am (HSp.out.below hbd); have HB3 := am (zn0 HB.out HB.out.size hbd); have HXX : zd0 (∀ V, Below w.heap.size w V → V.cell? ⟨g, 2, none⟩ = some (.slice (some adA) l2.length c2) ∧ V.cell? (adA.add i) = some (.bool a) ∧ V.cell? ⟨h, 2, none⟩ = some (.slice (some adB) l2'.length d2) ∧ V.cell? (adB.add k) = some (.bool b)) := ⟨fun V hb => ⟨(zh0 (zf0 HG.out hb) 2).trans rfl, zc0 hb HXA.out, (zh0 (zf0 HH.out hb) 2).trans rfl, zc0 hb HXB.out⟩⟩; have hS : wr.drew.cell? ⟨ob, 2, none⟩ = some (.slice A2v bs.length cva) ∧ wr.drew.cell? ⟨g, 2, none⟩ = some (.slice (some adA) l2.length c2) ∧ wr.drew.cell? (adA.add i) = some (.bool a) ∧ wr.drew.cell? ⟨h, 2, none⟩ = some (.slice (some adB) l2'.length d2) ∧ wr.drew.cell? (adB.add k) = some (.bool b) := ⟨(zh0 (HSp3.out.get (i := 1) rfl).1 2).trans rfl, HXX.out _ HB3.out⟩; clear hbd HSp HB hc HR; go_wp2; clear m3 x1 c1 c2_; refine qu0 (n := 21) (S := fun w' => w'.cell? ⟨ob, 2, none⟩ = some (.slice A2v bs.length cva) ∧ w'.cell? ⟨g, 2, none⟩ = some (.slice (some adA) l2.length c2) ∧ w'.cell? (adA.add i) = some (.bool a) ∧ w'.cell? ⟨h, 2, none⟩ = some (.slice (some adB) l2'.length d2) ∧ w'.cell? (adB.add k) = some (.bool b)) (ds := [20]) #[false, false, false, false, false, false, false, false, false, false, false, false, false, false, false, false, false, false, false, false, false] (by kernel_rfl) rfl rfl hS (fun hHeld => ?_)
       generalize wr.drew = w3 at HSp3 HB3 hS hHeld ⊢
       refine zz0 0 (some 89) (bl 21 1) rfl rfl (h := ?_); refine qy2 1 (some 90) (bl 21 3) hHeld rfl rfl (h := ?_); refine zz0 2 (some 91) (bl 21 7) rfl rfl (h := ?_); refine zz0 3 (some 92) (bl 21 15) rfl rfl (h := ?_); refine zz0 4 (some 93) (bl 21 31) rfl rfl (h := ?_); refine qy2 5 (some 94) (bl 21 63) hHeld rfl rfl (h := ?_); refine zz0 6 (some 95) (bl 21 127) rfl rfl (h := ?_); refine zz0 7 (some 96) (bl 21 255) rfl rfl (h := ?_); refine qy2 8 (some 97) (bl 21 511) hHeld rfl rfl (h := ?_); refine zz0 9 (some 98) (bl 21 1023) rfl rfl (h := ?_); refine zz0 10 (some 99) (bl 21 2047) rfl rfl (h := ?_); refine zz0 11 (some 100) (bl 21 4095) rfl rfl (h := ?_); refine qy2 12 (some 101) (bl 21 8191) hHeld rfl rfl (h := ?_); refine zz0 13 (some 102) (bl 21 16383) rfl rfl (h := ?_); refine zz0 14 (some 103) (bl 21 32767) rfl rfl (h := ?_); refine qy2 15 (some 104) (bl 21 65535) hHeld rfl rfl (h := ?_); refine zz0 16 (some 105) (bl 21 131071) rfl rfl (h := ?_); refine oneA 17 (some 106) (bl 21 262143) rfl rfl (fun K hK => ?_); refine zy1 (v := .slice (some ⟨w3.heap.size, 0, none⟩) 1 1) (w1 := w3.alloc (.cells #[.bool (a != b)] 4)) (by rfl) rfl ?_ ?_
       ·go_simp
        try rfl
       have hba : Below w3.heap.size w3 (w3.alloc (.cells #[.bool (a != b)] 4)) := (Below.refl _ _).alloc (Nat.le_refl _) _; refine hK.out _ _ ⟨zc0 hba hHeld.1, zc0 hba hHeld.2.1, zc0 hba hHeld.2.2.1, zc0 hba hHeld.2.2.2.1, zc0 hba hHeld.2.2.2.2⟩ (fun hHeld2 => ?_); clear hK K; refine qk0 (h := ?_); refine oneA 18 (some 107) (bl 21 524287) rfl rfl (fun K hK => ?_); refine Kd.qy0 Kd.bool (w0 := w) w.heap.size (by rfl) (.tmp 90) (.tmp 106) 22 4 (.bool false) 1 rfl Tryd.underlying22 yq2 rfl (by decide) (by decide) (.slice A2v bs.length cva) bs (a != b) [.bool (a != b)] _ (fun _ => False) rfl rfl rfl (fun _ hk => hk.elim) (fun _ hk => yw0 hk) (HSp3.out.rowTag 2 rfl) HB3.out HB3.out.size (by have := HLE.out.1; omega) ?_; intro v5 w5 ho hb hg hat; obtain ⟨A5, c5, hv5⟩ := Kd.zq0 ho; subst hv5; have HSp4 := am (HSp3.out.appended 2 rfl ho hg rfl); have HB4 := am hb; simp only [List.set_cons_succ, List.set_cons_zero] at HSp4; have g2 : w5.cell? ⟨ob, 2, none⟩ = some (.slice A2v bs.length cva) := (zh0 (HSp4.out.get (i := 1) rfl).1 2).trans rfl; have f2 := zb0 (HSp4.out.get (i := 1) rfl).1 2; refine hK.out _ _ ⟨g2, HXX.out _ HB4.out⟩ (fun _ => ?_); have HSp5 := am (HSp4.out.setBlk 1 rfl 2 (.slice A5 (bs ++ [a != b]).length c5) rfl rfl); have HB5 := am (HB4.out.setCell (p := ⟨ob, 2, none⟩) HOB.out (.slice A5 (bs ++ [a != b]).length c5)); simp only [List.set_cons_succ, List.set_cons_zero] at HSp5; clear hK K ho hb hg hat HSp3 HB3 HSp4 HB4 hba hHeld hHeld2 hS; refine qk0 (h := ?_); refine zz0 19 (some 108) (bl 21 1048575) rfl rfl (h := ?_); refine jk1 (i := 20) (N := none) (bl 21 2097151) rfl rfl (by kernel_rfl) (by decide) (fun K hK => ?_); refine qb1 (w1 := w5.setCell ⟨ob, 2, none⟩ (.slice A5 (bs ++ [a != b]).length c5)) (by rfl) rfl ?_ ?_
       ·go_simp
       refine hK.out _ _ ?_; clear hK K; refine kv0 (by kernel_rfl) ?_; clear g2 f2
       generalize w5.setCell _ _ = w7 at HSp5 HB5 ⊢
       obtain ⟨A8, c8, hv8⟩ := Kd.xc0 (HSp5.out.get (i := 3) rfl); subst hv8; obtain ⟨A9, c9, hv9⟩ := Kd.zq0 (HSp5.out.get (i := 4) rfl); subst hv9; have m3 : w7.cell? ⟨ob, 3, none⟩ = some (.slice A8 rs.length c8) := (zh0 (HSp5.out.get (i := 1) rfl).1 3).trans rfl; (have hrl : rs.length < 4002001 := by have := HLE.out.2; omega); have HSp6 := am (HSp5.out.drop 4); have HRw3 := am (HSp5.out.rowTag2 4 rfl 4); simp only [List.eraseIdx_cons_succ, List.eraseIdx_cons_zero] at HSp6; clear HSp5
       generalize hgr : rowM (l2'.length : Int) ra rb = row at HRw3 ⊢
       have HGR := am hgr; clear hgr; (have hil : k < 2000 := by have := HI2.out.1; have := HL.out.2.1; omega)
       go_wp2_with (first | ((with_reducible refine yf0 (b := .append) (xs := #[.tmp 110, .tmp 112]) rfl ?_); at_builtin; refine Kd.zt1 (Kd.slice 2 (Kd.int .i64)) (w0 := w) w.heap.size rfl (.tmp 110) (.tmp 112) 23 42 (.slice none 0 0) 24 rfl Tryd.underlying23 jx2 rfl (by decide) (by decide) (.slice A8 rs.length c8) rs row [.slice A9 row.length c9] _ _ rfl rfl ?aP ?aK ?aF (HSp6.out.rowsTag (u := 5) 3 rfl (by decide)) ?aB ?aS ?aL ?_; (case aP => exact ⟨_, rfl, HRw3.out⟩); (case aK => intro k hk; exact ⟨Or.inr hk, fun he => by have h_ := (Kd.S_R (HSp6.out.rowsTag (u := 5) 3 rfl (by decide))).1 k he.symm; exact h_.2 hk⟩); (case aF => exact (fun _ hk => Or.inl (yw0 hk))); (case aB => exact HB5.out); (case aS => exact HB5.out.size); (case aL => omega); intro v8 w8 ho hb hg hat; obtain ⟨A10, c10, hv10⟩ := Kd.xc0 ho; subst hv10; have HSp7 := am (HSp6.out.appendedRows (u := 5) 3 rfl ho hg rfl rfl); simp only [List.set_cons_succ, List.set_cons_zero] at HSp7; have HB7 := am hb; have m8 : w8.cell? ⟨ob, 3, none⟩ = some (.slice A8 rs.length c8) := (zh0 (HSp7.out.get (i := 1) rfl).1 3).trans rfl; have f8 := zb0 (HSp7.out.get (i := 1) rfl).1 3; clear ho hb hg hat HSp6 HRw3 HB5 m3))
       have HSp8 := am (HSp7.out.setBlk 1 rfl 3 (.slice A10 (rs ++ [row]).length c10) rfl rfl); have HB8 := am (HB7.out.setCell (p := ⟨ob, 3, none⟩) HOB.out (.slice A10 (rs ++ [row]).length c10)); simp only [List.set_cons_succ, List.set_cons_zero] at HSp8; rw [show (rs ++ [row]).length = rs.length + 1 by simp] at HSp8 HB8; go_roundg k2
       case measure => omega
       case rel => exact ⟨k + 1, _, _, _, bs ++ [a != b], rs ++ [row], by have := HI2.out.1; have := HL.out.2.1; go_num, ⟨by have := HK2.out; omega⟩, HB8, HSp8, ⟨by rw [HE.out.1, List.append_assoc, ← TK2.out.1]; rfl, by rw [HE.out.2, List.append_assoc, ← HGR.out, TK2.out.2]⟩⟩
      | succ k3 =>
       (have hc : c < W := by have := HK3.out; omega); (have hca : c < ra.length := by have := HRA.out.1; omega); (have hcb : c < rb.length := by have := HRB.out.1; omega); have c1 : decide ((c : Int) < (ra.length : Int)) = true := decide_eq_true (by omega); have c2_ : decide (c < ra.length) = true := decide_eq_true hca; have hrs := jp3 (l2'.length : Int) ra rb c hca hcb; obtain ⟨ad2, ea2, hx2⟩ := Kd.yk0 HCR.out (c : Int) (by omega) (by omega); rw [show rd ra (c : Int) = ra[c] by simp [rd, List.getD_eq_getElem?_getD, List.getElem?_eq_getElem hca]] at hx2; obtain ⟨ad4, ea4, hx4⟩ := Kd.yk0 HCS.out (c : Int) (by omega) (by omega); rw [show rd rb (c : Int) = rb[c] by simp [rd, List.getD_eq_getElem?_getD, List.getElem?_eq_getElem hcb]] at hx4; simp only [Int.toNat_natCast] at hx2 hx4; subst ea2; subst ea4; (have hp : 0 ≤ ra[c] ∧ ra[c] < 2000 := by have := HRA.out.2 _ (List.getElem_mem hca); have := HL.out.1; omega); (have hq : 0 ≤ rb[c] ∧ rb[c] < 2000 := by have := HRB.out.2 _ (List.getElem_mem hcb); have := HL.out.2.1; omega); have hw_ := qo2 (p := ra[c]) (q := rb[c]) (m := l2'.length) hp.1 hp.2 HL.out.2.1 hq.1 hq.2; rw [← hw_] at hrs; clear hw_ hp hq; generalize ra[c] = p at *; generalize rb[c] = q at *; have HRS := am hrs; have HX2 := am hx2; have HX4 := am hx4; obtain ⟨A9, c9, hv9⟩ := Kd.zq0 (HSp.out.get (i := 4) rfl); subst hv9; have p2 : (c < ra.length) = True := eq_true hca; have p3 : (k < l3'.length) = True := eq_true HI2.out.2; have p4 : (c < rb.length) = True := eq_true hcb; (have hrlen : row.length < 1001 := by rw [HR.out]; simp only [List.length_take]; have := HL.out.2.2; omega); have hbd : Below wr.heap.size wr wr.drew := ye0 (Below.refl _ _); have HSp3 := am (HSp.out.below hbd); have HB3 := am (zn0 HB.out HB.out.size hbd); have HXX : zd0 (∀ V, Below w.heap.size w V → V.cell? ⟨g, 3, none⟩ = some (.slice (some ad1) l3.length c3) ∧ V.cell? (ad1.add i) = some (.slice (some ad2) ra.length cr) ∧ V.cell? (ad2.add c) = some (.int .i64 p) ∧ V.cell? ⟨h, 3, none⟩ = some (.slice (some ad3) l3'.length d3) ∧ V.cell? (ad3.add k) = some (.slice (some ad4) rb.length dr) ∧ V.cell? (ad4.add c) = some (.int .i64 q)) := ⟨fun V hb => ⟨(zh0 (zf0 HG.out hb) 3).trans rfl, zc0 hb HX1.out, zc0 hb HX2.out, (zh0 (zf0 HH.out hb) 3).trans rfl, zc0 hb HX3.out, zc0 hb HX4.out⟩⟩; have hS := HXX.out _ HB3.out; clear hbd HSp HB hx2 hx4 hrs hca hcb; go_wp2; clear m3 x1 c1 c2_; refine qu0 (n := 27) (S := fun w' => w'.cell? ⟨g, 3, none⟩ = some (.slice (some ad1) l3.length c3) ∧ w'.cell? (ad1.add i) = some (.slice (some ad2) ra.length cr) ∧ w'.cell? (ad2.add c) = some (.int .i64 p) ∧ w'.cell? ⟨h, 3, none⟩ = some (.slice (some ad3) l3'.length d3) ∧ w'.cell? (ad3.add k) = some (.slice (some ad4) rb.length dr) ∧ w'.cell? (ad4.add c) = some (.int .i64 q)) (ds := []) #[false, false, false, false, false, false, false, false, false, false, false, false, false, false, false, false, false, false, false, false, false, false, false, false, false, false, false] (by kernel_rfl) rfl rfl hS (fun hHeld => ?_)
       generalize wr.drew = w3 at HSp3 HB3 hS hHeld ⊢
       refine zz0 0 (some 63) (bl 27 1) rfl rfl (h := ?_); refine zz0 1 (some 64) (bl 27 3) rfl rfl (h := ?_); refine zz0 2 (some 65) (bl 27 7) rfl rfl (h := ?_); refine zz0 3 (some 66) (bl 27 15) rfl rfl (h := ?_); refine yo1 4 (some 67) (bl 27 31) hHeld rfl rfl (h := ?_); refine zz0 5 (some 68) (bl 27 63) rfl rfl (h := ?_); refine zz0 6 (some 69) (bl 27 127) rfl rfl (h := ?_); refine yo1 7 (some 70) (bl 27 255) hHeld rfl rfl (h := ?_); refine zz0 8 (some 71) (bl 27 511) rfl rfl (h := ?_); refine zz0 9 (some 72) (bl 27 1023) rfl rfl (h := ?_); refine yo1 10 (some 73) (bl 27 2047) hHeld rfl rfl (h := ?_); refine zz0 11 (some 74) (bl 27 4095) rfl rfl (h := ?_); refine zz0 12 (some 75) (bl 27 8191) rfl rfl (h := ?_); refine zz0 13 (some 76) (bl 27 16383) rfl rfl (h := ?_); refine zz0 14 (some 77) (bl 27 32767) rfl rfl (h := ?_); refine zz0 15 (some 78) (bl 27 65535) rfl rfl (h := ?_); refine yo1 16 (some 79) (bl 27 131071) hHeld rfl rfl (h := ?_); refine zz0 17 (some 80) (bl 27 262143) rfl rfl (h := ?_); refine zz0 18 (some 81) (bl 27 524287) rfl rfl (h := ?_); refine yo1 19 (some 82) (bl 27 1048575) hHeld rfl rfl (h := ?_); refine zz0 20 (some 83) (bl 27 2097151) rfl rfl (h := ?_); refine zz0 21 (some 84) (bl 27 4194303) rfl rfl (h := ?_); refine yo1 22 (some 85) (bl 27 8388607) hHeld rfl rfl (h := ?_); refine zz0 23 (some 86) (bl 27 16777215) rfl rfl (h := ?_); refine oneA 24 (some 87) (bl 27 33554431) rfl rfl (fun K hK => ?_); refine zy1 (v := .slice (some ⟨w3.heap.size, 0, none⟩) 1 1) (w1 := w3.alloc (.cells #[.int .i64 (wrap64 (wrap64 (p * (l2'.length : Int)) + q))] 2)) (by rfl) rfl ?_ ?_
       ·go_simp
        try simp only [jp0]
        try rfl
       have hba : Below w3.heap.size w3 (w3.alloc (.cells #[.int .i64 (wrap64 (wrap64 (p * (l2'.length : Int)) + q))] 2)) := (Below.refl _ _).alloc (Nat.le_refl _) _; refine hK.out _ _ (HXX.out _ (zn0 HB3.out HB3.out.size hba)) (fun hHeld2 => ?_); clear hK K hba; refine qk0 (h := ?_); refine oneA 25 (some 88) (bl 27 67108863) rfl rfl (fun K hK => ?_); refine Kd.qy0 (Kd.int .i64) (w0 := w) w.heap.size (by rfl) (.tmp 63) (.tmp 87) 42 2 (.int .i64 0) 8 rfl Tryd.underlying42 yj1 rfl (by decide) (by decide) (.slice A9 row.length c9) row (wrap64 (wrap64 (p * (l2'.length : Int)) + q)) [.int .i64 (wrap64 (wrap64 (p * (l2'.length : Int)) + q))] _ (fun _ => False) rfl rfl rfl (fun _ hk => hk.elim) (fun _ hk => yw0 hk) (HSp3.out.rowTag 4 rfl) HB3.out HB3.out.size (by omega) ?_; intro v5 w5 ho hb hg hat; have HSp4 := am (HSp3.out.appended 4 rfl ho hg rfl); have HB4 := am hb; simp only [List.set_cons_succ, List.set_cons_zero] at HSp4; refine hK.out _ _ (HXX.out _ HB4.out) (fun _ => ?_); clear hK K ho hb hg hat HSp3 HB3 hHeld hHeld2 hS; refine qk0 (h := ?_); refine zz0 26 (some 9) (bl 27 134217727) rfl rfl (h := ?_); refine kv0 (by kernel_rfl) ?_; (have hcl : c < 1000 := by have := HL.out.2.2; omega); go_wp2; go_roundg k3
       case measure => omega
       case rel => exact ⟨_, row ++ [wrap64 (wrap64 (p * (l2'.length : Int)) + q)], c + 1, by go_num, ⟨by have := HK3.out; omega⟩, HB4, HSp4, ⟨by rw [HR.out]; exact HRS.out⟩⟩
attribute [local go_sem] kc0 ka0 zg1 zf1 jh0 jg0 kb0 jz0
theorem jw3 {f : Bool → Bool → Bool} {m : List Bool} {k : Nat} (hk : k < m.length) : ∀ {l : List Bool} {i : Nat} (hi : i < l.length), (jv0 f l m)[i * m.length + k]? = some (f l[i] m[k]) := by
 intro l
 induction l with
 | nil => intro i hi; exact absurd hi (by simp)
 | cons a l ih =>
  intro i hi; (have e : jv0 f (a :: l) m = m.map (f a) ++ jv0 f l m := by simp [jv0]); rw [e]
  cases i with
  | zero =>
   rw [List.getElem?_append_left (by simp; omega), Nat.zero_mul, Nat.zero_add, List.getElem?_map, List.getElem?_eq_getElem hk]; rfl
  | succ i =>
   rw [List.getElem?_append_right (by rw [List.length_map, Nat.succ_mul]; omega), List.length_map, show (i + 1) * m.length + k - m.length = i * m.length + k by rw [Nat.succ_mul]; omega, ih (by simpa using hi)]; rfl
theorem xa3 {W W4 : World} {g B : Nat} {t s : Int} {A2 : Option Addr} {c2 : Nat} {bs : List Bool} {A3 : Option Addr} {c3 : Nat} {rs : List (List Int)} (hR : Kd.R Kd.bool 4 W B (fun _ => True) (.slice A2 bs.length c2) bs) (hS : Kd.S (Kd.slice 2 (Kd.int .i64)) 42 W B (fun _ => True) (.slice A3 rs.length c3) rs) (hb : Below W.heap.size W W4) (hN : W4.heap[g]? = some (.cells #[.int .i64 t, .int .i64 s, .slice A2 bs.length c2, .slice A3 rs.length c3] 29 (0, 0))) : yd1 W4 g t s bs rs := by
 obtain ⟨-, q1, q2⟩ := Kd.zt0 (Kd.yo0 hR hb); obtain ⟨-, q3, q4⟩ := Kd.je0 (Kd.zv1 hS hb); exact ⟨A2, c2, A3, c3, hN, q2, q1, q4, q3⟩
theorem ku1 {k : Nat} (w : World) {g : Nat} {t s : Int} {l2 : List Bool} {l3 : List (List Int)} {r1 r2 : Int} {r3 : List Bool} {r4 : List (List Int)} (H : yd1 w g t s l2 l3) (h : xg0.f k t s l2 l3 = some (r1, r2, r3, r4)) :
  Calls Tryd.prog 54 #[.pointer (some ⟨g, 0, none⟩)] w (yj3 w r1 r2 r3 r4) := by
 obtain ⟨A2, c2, A3, c3, h1, h2, h3, h4, h5⟩ := H; exact xg0.calls k t s A2 c2 l2 A3 c3 l3 r1 r2 r3 r4 w h1 h2 h3 h4 h5 h
def xd3 (s : Int) (l2 : List Bool) (l3 : List (List Int)) (s' : Int) (l2' : List Bool) (l3' : List (List Int)) : Prop := ∃ W, W ≤ 1000 ∧ yp0 W l2.length l3 ∧ yp0 W l2'.length l3' ∧ l2.length ≤ 2000 ∧ l2'.length ≤ 2000 ∧ 0 ≤ s ∧ s < (l2.length : Int) ∧ 0 ≤ s' ∧ s' < (l2'.length : Int)
open Classical in
noncomputable def xr0.f (k : Nat) (a0 : Int) (a1 : Int) (l2 : List Bool) (l3 : List (List Int)) (b0 : Int) (b1 : Int) (m2 : List Bool) (m3 : List (List Int)) : Option (List ByteArray × Int) :=
 (qe2 k a0 a1 l2 l3 b0 b1 m2 m3).bind fun c => if c = 0 then (xg0.f k a0 a1 l2 l3).bind fun a => (xg0.f k b0 b1 m2 m3).bind fun b => if xd3 a.2.1 a.2.2.1 a.2.2.2 b.2.1 b.2.2.1 b.2.2.2 then (qo0.f k a.1 (a.2.1 * (b.2.2.1.length : Int) + b.2.1) (jv0 (neB) a.2.2.1 b.2.2.1) (jx0 (b.2.2.1.length : Int) a.2.2.2 b.2.2.2)).bind fun q => some (q.1, q.2.1) else none else some (([] : List ByteArray), c)
theorem xr0.calls (k : Nat) (a0_0 : Int) (a0_1 : Int) (A0_2 : Option Addr) (c0_2 : Nat) (l0_2 : List Bool) (A0_3 : Option Addr) (c0_3 : Nat) (l0_3 : List (List Int)) (a1_0 : Int) (a1_1 : Int) (A1_2 : Option Addr) (c1_2 : Nat) (l1_2 : List Bool) (A1_3 : Option Addr) (c1_3 : Nat) (l1_3 : List (List Int)) (r1 : List ByteArray) (r2 : Int) (w : World) (hr0_2 : Kd.C Kd.bool w A0_2 l0_2.length l0_2) (hc0_2 : l0_2.length ≤ c0_2) (hr0_3 : Kd.C (Kd.slice 2 (Kd.int .i64)) w A0_3 l0_3.length l0_3) (hc0_3 : l0_3.length ≤ c0_3) (hr1_2 : Kd.C Kd.bool w A1_2 l1_2.length l1_2) (hc1_2 : l1_2.length ≤ c1_2) (hr1_3 : Kd.C (Kd.slice 2 (Kd.int .i64)) w A1_3 l1_3.length l1_3) (hc1_3 : l1_3.length ≤ c1_3) (h : xr0.f k a0_0 a0_1 l0_2 l0_3 a1_0 a1_1 l1_2 l1_3 = some (r1, r2)) :
  Calls Tryd.prog 48 #[.agg #[.int .i64 a0_0, .int .i64 a0_1, .slice A0_2 l0_2.length c0_2, .slice A0_3 l0_3.length c0_3], .agg #[.int .i64 a1_0, .int .i64 a1_1, .slice A1_2 l1_2.length c1_2, .slice A1_3 l1_3.length c1_3]] w fun e w' => ∃ v0_ : Value, e = .returned (.tuple #[v0_, .int .i64 r2]) ∧ Kd.R Kd.string 9 w' w.heap.size (fun _ => True) v0_ r1 ∧ Below w.heap.size w w' := by
 unfold xr0.f at h; obtain ⟨c, hc, h⟩ := oB h; have HC := am hc; have HB0 := am (zx0 (zx0 (Below.refl w.heap.size w) (.cells #[.int .i64 a0_0, .int .i64 a0_1, .slice A0_2 l0_2.length c0_2, .slice A0_3 l0_3.length c0_3] 29)) (.cells #[.int .i64 a1_0, .int .i64 a1_1, .slice A1_2 l1_2.length c1_2, .slice A1_3 l1_3.length c1_3] 29)); have BG : yd1 ((w.alloc (.cells #[.int .i64 a0_0, .int .i64 a0_1, .slice A0_2 l0_2.length c0_2, .slice A0_3 l0_3.length c0_3] 29)).alloc (.cells #[.int .i64 a1_0, .int .i64 a1_1, .slice A1_2 l1_2.length c1_2, .slice A1_3 l1_3.length c1_3] 29)) w.heap.size a0_0 a0_1 l0_2 l0_3 := ⟨A0_2, c0_2, A0_3, c0_3, yc0 (yt0 w _) _, Kd.zv0 hr0_2 HB0.out, hc0_2, Kd.zv0 hr0_3 HB0.out, hc0_3⟩; have BH : yd1 ((w.alloc (.cells #[.int .i64 a0_0, .int .i64 a0_1, .slice A0_2 l0_2.length c0_2, .slice A0_3 l0_3.length c0_3] 29)).alloc (.cells #[.int .i64 a1_0, .int .i64 a1_1, .slice A1_2 l1_2.length c1_2, .slice A1_3 l1_3.length c1_3] 29)) (w.heap.size + 1) a1_0 a1_1 l1_2 l1_3 := ⟨A1_2, c1_2, A1_3, c1_3, by have h_ := yt0 (w.alloc (.cells #[.int .i64 a0_0, .int .i64 a0_1, .slice A0_2 l0_2.length c0_2, .slice A0_3 l0_3.length c0_3] 29)) (.cells #[.int .i64 a1_0, .int .i64 a1_1, .slice A1_2 l1_2.length c1_2, .slice A1_3 l1_3.length c1_3] 29); simpa using h_, Kd.zv0 hr1_2 HB0.out, hc1_2, Kd.zv0 hr1_3 HB0.out, hc1_3⟩; have HG := am BG; have HH := am BH; clear hc hr0_2 hc0_2 hr0_3 hc0_3 hr1_2 hc1_2 hr1_3 hc1_3 BG BH; by_cases c0 : c = 0
 ·subst c0; rw [if_pos rfl] at h; obtain ⟨⟨a1, a2, a3, a4⟩, h1, h⟩ := oB h; obtain ⟨⟨b1, b2, b3, b4⟩, h2, h⟩ := oB h; by_cases hT : xd3 a2 a3 a4 b2 b3 b4
  case neg => rw [if_neg hT] at h; cases h
  rw [if_pos hT] at h; obtain ⟨⟨t1, t2, t3, t4⟩, h3, h4⟩ := oB h; simp only [Option.some.injEq, Prod.mk.injEq] at h4; obtain ⟨rfl, rfl⟩ := h4; have HA := am h1; have HBb := am h2; have H5 := am h3; have HT := am hT; clear h h1 h2 h3 hT; go_enter Tryd.func48, Tryd.ntmps48
  go_wp2_with (fail)
  generalize World.alloc _ _ = w1 at *; (with_reducible refine (qr2 w1 HG.out HH.out HC.out).mono ?_); rintro e w2 ⟨rfl, hb⟩; have HG2 := am (HG.out.below hb); have HH2 := am (HH.out.below hb); have HB2 := am (zn0 HB0.out HB0.out.size hb); clear hb HG HH HB0
  go_wp2_with (fail)
  (with_reducible refine (ku1 w2 HG2.out HA.out).mono ?_); rintro e w3 ⟨v2, v3, rfl, hR, hS, hb⟩; obtain ⟨C2, q2, hv2⟩ := Kd.zq0 hR; subst hv2; obtain ⟨C3, q3, hv3⟩ := Kd.xc0 hS; subst hv3; have HB3 := am (zn0 HB2.out HB2.out.size hb); have HH3 := am (HH2.out.below hb); have HR3 := am hR; have HS3 := am hS; clear hR hS hb HB2 HH2 HG2 HA
  go_upto_region 5 with (fail)
  have hb3 := zx0 (Below.refl w3.heap.size w3) (.cells #[.int .i64 a1, .int .i64 a2, .slice C2 a3.length q2, .slice C3 a4.length q3] 29); have BA := am (xa3 HR3.out HS3.out hb3 (yt0 w3 (.cells #[.int .i64 a1, .int .i64 a2, .slice C2 a3.length q2, .slice C3 a4.length q3] 29))); have HB4 := am (zn0 HB3.out HB3.out.size hb3); have HH4 := am (HH3.out.below hb3); clear hb3 HB3 HR3 HS3 HH3; generalize w3.alloc _ = w4 at *; generalize w3.heap.size = ga at *; clear w1 w2 w3
  go_wp2_with (fail)
  (with_reducible refine (ku1 w4 HH4.out HBb.out).mono ?_); rintro e w5 ⟨v2, v3, rfl, hR, hS, hb⟩; obtain ⟨D2, p2, hv2⟩ := Kd.zq0 hR; subst hv2; obtain ⟨D3, p3, hv3⟩ := Kd.xc0 hS; subst hv3; have HB5 := am (zn0 HB4.out HB4.out.size hb); have BA5 := am (BA.out.below hb); have HR5 := am hR; have HS5 := am hS; clear hR hS hb HB4 HH4 HBb BA
  go_upto_region 6 with (fail)
  have hb3 := zx0 (Below.refl w5.heap.size w5) (.cells #[.int .i64 b1, .int .i64 b2, .slice D2 b3.length p2, .slice D3 b4.length p3] 29); have BB := am (xa3 HR5.out HS5.out hb3 (yt0 w5 (.cells #[.int .i64 b1, .int .i64 b2, .slice D2 b3.length p2, .slice D3 b4.length p3] 29))); have HB6 := am (zn0 HB5.out HB5.out.size hb3); have BA6 := am (BA5.out.below hb3); clear hb3 HB5 HR5 HS5 BA5; generalize w5.alloc _ = w6 at *; generalize w5.heap.size = gb at *; clear w4 w5
  go_wp2_with (fail)
  have HP : zd0 (Calls Tryd.prog 105 #[.pointer (some ⟨ga, 0, none⟩), .pointer (some ⟨gb, 0, none⟩)] w6 (yj3 w6 a1 (a2 * (b3.length : Int) + b2) (jv0 (neB) a3 b3) (jx0 (b3.length : Int) a4 b4))) := by
   obtain ⟨W, hW, T1, T2, q1, q2, s0, s1, u0, u1⟩ := HT.out; exact ⟨kk2 w6 BA6.out BB.out q1 q2 hW T1 T2 s0 s1 u0 u1⟩
  (with_reducible refine HP.out.mono ?_); rintro e w7 ⟨v2, v3, rfl, hR, hS, hb⟩; generalize a2 * (b3.length : Int) + b2 = S0 at *; generalize jv0 (neB) a3 b3 = xa at *; generalize jx0 (b3.length : Int) a4 b4 = xn at *; obtain ⟨E2, e2, hv2⟩ := Kd.zq0 hR; subst hv2; obtain ⟨E3, e3, hv3⟩ := Kd.xc0 hS; subst hv3; have HB7 := am (zn0 HB6.out HB6.out.size hb); have HI := am (IsS29.new w7 w7 E2 e2 E3 e3 a1 S0 xa xn (Below.refl _ _) (Kd.zt0 hR).2.2 (Kd.je0 hS).2.2); clear hR hS hb HB6 BA6 BB HP HT
  go_upto_region 7 with (fail)
  go_wp2_with (fail)
  (with_reducible refine (qo0.calls k w7.heap.size a1 S0 xa xn t1 t2 t3 t4 w7 _ HI.out (zx0 (Below.refl _ _) _) H5.out).mono ?_); rintro e w9 ⟨v0, rfl, hR, hi, hb6, hk6⟩; have HR9 := am (Kd.yx0 hR (show w.heap.size ≤ _ from Nat.le_trans HB7.out.size (zx0 (Below.refl _ _) _).size)); have HB9 := am (zn0 HB7.out HB7.out.size hb6); clear HI hR hi hb6 hk6 HB7; obtain ⟨B6, d6, hv6⟩ := Kd.zq0 HR9.out; subst hv6; go_wp2; go_ret2; exact ⟨_, rfl, HR9.out, HB9.out⟩
 ·rw [if_neg c0] at h; simp only [Option.some.injEq, Prod.mk.injEq] at h; obtain ⟨rfl, rfl⟩ := h; have c3b0 : (c == 0) = false := beq_eq_false_iff_ne.mpr c0; have c3b1 : (c != 0) = true := bne_iff_ne.mpr c0; clear c0; go_enter Tryd.func48, Tryd.ntmps48
  go_wp2_with (fail)
  generalize World.alloc _ _ = w3 at *; (with_reducible refine (qr2 w3 HG.out HH.out HC.out).mono ?_); rintro e w4 ⟨rfl, hb⟩; have HB4 := am (zn0 HB0.out HB0.out.size hb); clear hb; go_wp2; go_ret2; exact ⟨_, rfl, yc2 Kd.string 9 w.heap.size w4 (fun _ => True) HB4.out.size trivial, zx0 HB4.out _⟩
def yy0.f (a0 : Int) (a1 : Int) (a2 : Int) : Option (Bool) := if a1 ≤ a0 then (some (decide (a0 ≤ a2))) else (some false)
theorem yy0.calls (a0 : Int) (a1 : Int) (a2 : Int) (r : Bool) (w : World) (h : yy0.f a0 a1 a2 = some r) :
  Calls Tryd.prog 85 #[.int .i64 a0, .int .i64 a1, .int .i64 a2] w fun e w' => e = .returned (.bool r) ∧ qd0 w w' := by
 have H : (if a1 ≤ a0 then (some (decide (a0 ≤ a2))) else (some false)) = some r := h; clear h; by_cases c4 : a1 ≤ a0
 ·rw [if_pos c4] at H; have c4b0 := decide_eq_true c4; clear c4; obtain rfl := Option.some.inj H; go_enter Tryd.func85, Tryd.ntmps85; go_wp2; go_ret; exact ⟨tF, tD⟩
 ·rw [if_neg c4] at H; have c4b0 := decide_eq_false c4; clear c4; obtain rfl := Option.some.inj H; go_enter Tryd.func85, Tryd.ntmps85; go_wp2; go_ret; exact ⟨tF, tD⟩
def qb0.f (a0 : Int) : Option (Bool) := (yy0.f a0 1 3).bind fun t184 => (some t184)
theorem qb0.calls (a0 : Int) (r : Bool) (w : World) (h : qb0.f a0 = some r) :
  Calls Tryd.prog 117 #[.int .i64 a0] w fun e w' => e = .returned (.bool r) ∧ qd0 w w' := by
 have H : ((yy0.f a0 1 3).bind fun t184 => (some t184)) = some r := h; clear h; obtain ⟨t184, A20, H⟩ := oB H; replace H : (some t184) = some r := H; have A2 := am A20; clear A20; obtain rfl := Option.some.inj H; go_enter Tryd.func117, Tryd.ntmps117
 go_wp2_with (first | ((with_reducible refine yg0 (f := 85) rfl ?_); refine xu0 (some 4) Tryd.func85 #[.int .i64 a0, .int .i64 1, .int .i64 3] rfl rfl rfl (h := ?_); (with_reducible refine (yy0.calls a0 1 3 t184 _ A2.out).mono ?_); rintro e w' ⟨rfl, ⟨nd, rfl⟩⟩; refine ⟨_, rfl, ?_⟩))
 go_ret; exact ⟨tF, tD⟩
mutual
def za0.j0 : Nat → Int → Bool → Int → Int → List Bool → List (List Int) → Option (Bool)
 | 0, _, _, _, _, _, _ => none
 | k + 1, x3, x34, x187000, x187001, x187002, x187003 => if x34 = true then (some false) else (za0.l0 k x3 x187003 (x187003.length : Int) 0 x187000 x187001 x187002 x187003)
def za0.l0 : Nat → Int → List (List Int) → Int → Int → Int → Int → List Bool → List (List Int) → Option (Bool)
 | 0, _, _, _, _, _, _, _, _ => none
 | k + 1, x3, x36, x37, x38, x187000, x187001, x187002, x187003 => if x38 < x37 then (if 0 ≤ x38 then (if x38 < (x36.length : Int) then ((zy0.f k x187000).bind fun t191 => (if ((rd_L2 x36 x38).length : Int) = t191 then (za0.l1 k x3 x36 x37 x38 (rd_L2 x36 x38) ((rd_L2 x36 x38).length : Int) 0 x187000 x187001 x187002 x187003) else (some false))) else (none)) else (none)) else (some true)
def za0.l1 : Nat → Int → List (List Int) → Int → Int → List Int → Int → Int → Int → Int → List Bool → List (List Int) → Option (Bool)
 | 0, _, _, _, _, _, _, _, _, _, _, _ => none
 | k + 1, x3, x36, x37, x38, x48, x49, x50, x187000, x187001, x187002, x187003 => if x50 < x49 then (if 0 ≤ x50 then (if x50 < (x48.length : Int) then ((yy0.f (rd x48 x50) 0 (wrap64 (x3 - 1))).bind fun t193 => (if t193 = true then (za0.l1 k x3 x36 x37 x38 x48 x49 (wrap64 (x50 + 1)) x187000 x187001 x187002 x187003) else (some false))) else (none)) else (none)) else (za0.l0 k x3 x36 x37 (wrap64 (x38 + 1)) x187000 x187001 x187002 x187003)
end
def za0.f (k : Nat) (a0_0 : Int) (a0_1 : Int) (l0_2 : List Bool) (l0_3 : List (List Int)) : Option (Bool) := (qb0.f a0_0).bind fun t187 => (if t187 = true then ((yy0.f (l0_2.length : Int) 1 150).bind fun t188 => (if t188 = true then (if (l0_3.length : Int) = (l0_2.length : Int) then ((yy0.f a0_1 0 (wrap64 ((l0_2.length : Int) - 1))).bind fun t189 => (za0.j0 k (l0_2.length : Int) (!t189) a0_0 a0_1 l0_2 l0_3)) else (za0.j0 k (l0_2.length : Int) true a0_0 a0_1 l0_2 l0_3)) else (za0.j0 k (l0_2.length : Int) true a0_0 a0_1 l0_2 l0_3))) else (za0.j0 k (l0_2.length : Int) true a0_0 a0_1 l0_2 l0_3))
theorem za0.mono_l : ∀ k, (∀ y0 y1 y2 y3 y4 y5, LeO (za0.j0 k y0 y1 y2 y3 y4 y5) (za0.j0 (k + 1) y0 y1 y2 y3 y4 y5)) ∧ (∀ y0 y1 y2 y3 y4 y5 y6 y7, LeO (za0.l0 k y0 y1 y2 y3 y4 y5 y6 y7) (za0.l0 (k + 1) y0 y1 y2 y3 y4 y5 y6 y7)) ∧ (∀ y0 y1 y2 y3 y4 y5 y6 y7 y8 y9 y10, LeO (za0.l1 k y0 y1 y2 y3 y4 y5 y6 y7 y8 y9 y10) (za0.l1 (k + 1) y0 y1 y2 y3 y4 y5 y6 y7 y8 y9 y10))
 | 0 => ⟨fun _ _ _ _ _ _ r h => by simp [za0.j0] at h, fun _ _ _ _ _ _ _ _ r h => by simp [za0.l0] at h, fun _ _ _ _ _ _ _ _ _ _ _ r h => by simp [za0.l1] at h⟩
 | k + 1 => by
  obtain ⟨ih0, ih1, ih2⟩ := za0.mono_l k; refine ⟨?_, ?_, ?_⟩
  ·intro y0 y1 y2 y3 y4 y5; unfold za0.j0
   repeat' first
   | (with_reducible exact ih0 _ _ _ _ _ _)
   | (with_reducible exact ih1 _ _ _ _ _ _ _ _)
   | (with_reducible exact ih2 _ _ _ _ _ _ _ _ _ _ _)
   | (with_reducible exact zy0.mono _ _)
   | (with_reducible exact LeO.refl _)
   | (with_reducible exact LeO.none _)
   | (with_reducible refine LeO.ite ?_ ?_)
   | (with_reducible refine LeO.bind ?_ (fun _ => ?_))
   | exact ih0 _ _ _ _ _ _
   | exact ih1 _ _ _ _ _ _ _ _
   | exact ih2 _ _ _ _ _ _ _ _ _ _ _
   | exact zy0.mono _ _
   | exact LeO.none _
   | refine LeO.ite ?_ ?_
   | refine LeO.bind ?_ (fun _ => ?_)
  ·intro y0 y1 y2 y3 y4 y5 y6 y7; unfold za0.l0
   repeat' first
   | (with_reducible exact ih0 _ _ _ _ _ _)
   | (with_reducible exact ih1 _ _ _ _ _ _ _ _)
   | (with_reducible exact ih2 _ _ _ _ _ _ _ _ _ _ _)
   | (with_reducible exact zy0.mono _ _)
   | (with_reducible exact LeO.refl _)
   | (with_reducible exact LeO.none _)
   | (with_reducible refine LeO.ite ?_ ?_)
   | (with_reducible refine LeO.bind ?_ (fun _ => ?_))
   | exact ih0 _ _ _ _ _ _
   | exact ih1 _ _ _ _ _ _ _ _
   | exact ih2 _ _ _ _ _ _ _ _ _ _ _
   | exact zy0.mono _ _
   | exact LeO.none _
   | refine LeO.ite ?_ ?_
   | refine LeO.bind ?_ (fun _ => ?_)
  ·intro y0 y1 y2 y3 y4 y5 y6 y7 y8 y9 y10; unfold za0.l1
   repeat' first
   | (with_reducible exact ih0 _ _ _ _ _ _)
   | (with_reducible exact ih1 _ _ _ _ _ _ _ _)
   | (with_reducible exact ih2 _ _ _ _ _ _ _ _ _ _ _)
   | (with_reducible exact zy0.mono _ _)
   | (with_reducible exact LeO.refl _)
   | (with_reducible exact LeO.none _)
   | (with_reducible refine LeO.ite ?_ ?_)
   | (with_reducible refine LeO.bind ?_ (fun _ => ?_))
   | exact ih0 _ _ _ _ _ _
   | exact ih1 _ _ _ _ _ _ _ _
   | exact ih2 _ _ _ _ _ _ _ _ _ _ _
   | exact zy0.mono _ _
   | exact LeO.none _
   | refine LeO.ite ?_ ?_
   | refine LeO.bind ?_ (fun _ => ?_)
theorem za0.mono : ∀ a0 a1 a2 a3 k, LeO (za0.f k a0 a1 a2 a3) (za0.f (k + 1) a0 a1 a2 a3) := by
 intro a0 a1 a2 a3 k; obtain ⟨ih0, ih1, ih2⟩ := za0.mono_l k; unfold za0.f
 repeat' first
   | (with_reducible exact ih0 _ _ _ _ _ _)
   | (with_reducible exact ih1 _ _ _ _ _ _ _ _)
   | (with_reducible exact ih2 _ _ _ _ _ _ _ _ _ _ _)
   | (with_reducible exact zy0.mono _ _)
   | (with_reducible exact LeO.refl _)
   | (with_reducible exact LeO.none _)
   | (with_reducible refine LeO.ite ?_ ?_)
   | (with_reducible refine LeO.bind ?_ (fun _ => ?_))
   | exact ih0 _ _ _ _ _ _
   | exact ih1 _ _ _ _ _ _ _ _
   | exact ih2 _ _ _ _ _ _ _ _ _ _ _
   | exact zy0.mono _ _
   | exact LeO.none _
   | refine LeO.ite ?_ ?_
   | refine LeO.bind ?_ (fun _ => ?_)
theorem za0.calls (k : Nat) (a0_0 : Int) (a0_1 : Int) (A0_2 : Option Addr) (c0_2 : Nat) (l0_2 : List Bool) (A0_3 : Option Addr) (c0_3 : Nat) (l0_3 : List (List Int)) (r : Bool) (w : World) (hr0_2 : Kd.C Kd.bool w A0_2 l0_2.length l0_2) (hc0_2 : l0_2.length ≤ c0_2) (hr0_3 : Kd.C (Kd.slice 2 (Kd.int .i64)) w A0_3 l0_3.length l0_3) (hc0_3 : l0_3.length ≤ c0_3) (h : za0.f k a0_0 a0_1 l0_2 l0_3 = some r) :
  Calls Tryd.prog 65 #[.agg #[.int .i64 a0_0, .int .i64 a0_1, .slice A0_2 l0_2.length c0_2, .slice A0_3 l0_3.length c0_3]] w fun e w' => e = .returned (.bool r) ∧ Below w.heap.size w w' := by
 have hu29 := Tryd.underlying29; have HR0_2 := am hr0_2; have HC0_2 := am hc0_2; clear hr0_2 hc0_2; have HR0_3 := am hr0_3; have HC0_3 := am hc0_3; clear hr0_3 hc0_3; have HB := am (Below.refl w.heap.size w); have H : ((qb0.f a0_0).bind fun t187 => (if t187 = true then ((yy0.f (l0_2.length : Int) 1 150).bind fun t188 => (if t188 = true then (if (l0_3.length : Int) = (l0_2.length : Int) then ((yy0.f a0_1 0 (wrap64 ((l0_2.length : Int) - 1))).bind fun t189 => (za0.j0 k (l0_2.length : Int) (!t189) a0_0 a0_1 l0_2 l0_3)) else (za0.j0 k (l0_2.length : Int) true a0_0 a0_1 l0_2 l0_3)) else (za0.j0 k (l0_2.length : Int) true a0_0 a0_1 l0_2 l0_3))) else (za0.j0 k (l0_2.length : Int) true a0_0 a0_1 l0_2 l0_3))) = some r := h; clear h; have HC2 := am H; clear H; go_enter Tryd.func65, Tryd.ntmps65
 go_upto_region 2 with (first | ((with_reducible refine yi0 (N := 1) rfl ?_); (try (refine qu3 (by rfl) ?_; dsimp only)); refine boxA 1 #[.int .i64 a0_0, .int .i64 a0_1, .slice A0_2 l0_2.length c0_2, .slice A0_3 l0_3.length c0_3] 29 rfl rfl (h := ?_); intro gb186 hg w3 hbox hb; have BK186 := am (hbox); have GW186 := am ((by rw [hg]; exact (zm0 (tB)) : w.heap.size ≤ gb186)); have GE186 := am ((by rw [hg]; exact (zm0 (tB)) : w.heap.size ≤ gb186)); replace HB := am (zr0 (tB) hb); clear hb hbox hg; obtain ⟨hcz4_0, hcz4_1, hcz4_2, hcz4_3⟩ := bc4 BK186.out; have hfz4_0 := zb0 BK186.out 0; have hfz4_1 := zb0 BK186.out 1; have hfz4_2 := zb0 BK186.out 2; have hfz4_3 := zb0 BK186.out 3))
 (try simp only [Act.put, List.setIfInBounds_toArray, List.set_cons_zero, List.set_cons_succ])
 go_cut [34] (fun v34 wc => ∃ (kq : Nat) (x34_1 : Bool), v34 = .bool x34_1 ∧ zd0 (za0.j0 kq (l0_2.length : Int) x34_1 a0_0 a0_1 l0_2 l0_3 = some r) ∧ zd0 (kq ≤ k) ∧ zd0 (wc.heap[gb186]? = some (.cells #[.int .i64 a0_0, .int .i64 a0_1, (.slice A0_2 l0_2.length c0_2), (.slice A0_3 l0_3.length c0_3)] 29 (0, 0))) ∧ zd0 (Below w.heap.size w wc))
 case first =>
  have H := HC2.out; clear HC2; obtain ⟨t187, A50, H⟩ := oB H; replace H : (if t187 = true then ((yy0.f (l0_2.length : Int) 1 150).bind fun t188 => (if t188 = true then (if (l0_3.length : Int) = (l0_2.length : Int) then ((yy0.f a0_1 0 (wrap64 ((l0_2.length : Int) - 1))).bind fun t189 => (za0.j0 k (l0_2.length : Int) (!t189) a0_0 a0_1 l0_2 l0_3)) else (za0.j0 k (l0_2.length : Int) true a0_0 a0_1 l0_2 l0_3)) else (za0.j0 k (l0_2.length : Int) true a0_0 a0_1 l0_2 l0_3))) else (za0.j0 k (l0_2.length : Int) true a0_0 a0_1 l0_2 l0_3)) = some r := H; have A5 := am A50; clear A50; by_cases c6 : t187 = true
  ·subst c6; (have H1 : ((yy0.f (l0_2.length : Int) 1 150).bind fun t188 => (if t188 = true then (if (l0_3.length : Int) = (l0_2.length : Int) then ((yy0.f a0_1 0 (wrap64 ((l0_2.length : Int) - 1))).bind fun t189 => (za0.j0 k (l0_2.length : Int) (!t189) a0_0 a0_1 l0_2 l0_3)) else (za0.j0 k (l0_2.length : Int) true a0_0 a0_1 l0_2 l0_3)) else (za0.j0 k (l0_2.length : Int) true a0_0 a0_1 l0_2 l0_3))) = some r := by rw [if_pos rfl] at H; exact H); clear H; have H := H1; clear H1; obtain ⟨t188, A70, H⟩ := oB H; replace H : (if t188 = true then (if (l0_3.length : Int) = (l0_2.length : Int) then ((yy0.f a0_1 0 (wrap64 ((l0_2.length : Int) - 1))).bind fun t189 => (za0.j0 k (l0_2.length : Int) (!t189) a0_0 a0_1 l0_2 l0_3)) else (za0.j0 k (l0_2.length : Int) true a0_0 a0_1 l0_2 l0_3)) else (za0.j0 k (l0_2.length : Int) true a0_0 a0_1 l0_2 l0_3)) = some r := H; have A7 := am A70; clear A70; by_cases c8 : t188 = true
   ·subst c8; (have H1 : (if (l0_3.length : Int) = (l0_2.length : Int) then ((yy0.f a0_1 0 (wrap64 ((l0_2.length : Int) - 1))).bind fun t189 => (za0.j0 k (l0_2.length : Int) (!t189) a0_0 a0_1 l0_2 l0_3)) else (za0.j0 k (l0_2.length : Int) true a0_0 a0_1 l0_2 l0_3)) = some r := by rw [if_pos rfl] at H; exact H); clear H; have H := H1; clear H1; by_cases c9 : (l0_3.length : Int) = (l0_2.length : Int)
    ·rw [if_pos c9] at H; have c9b0 : ((l0_3.length : Int) == (l0_2.length : Int)) = true := beq_iff_eq.mpr c9; have c9b1 : ((l0_3.length : Int) != (l0_2.length : Int)) = false := bne_eq_false_iff_eq.mpr c9
     have c9b2 : (l0_3.length == l0_2.length) = true := by first | simpa using c9 | (simp at c9 ⊢; omega)
     clear c9
     (first | rw [c9b0] | (simp only [jp0, ku0]; rw [c9b0]) | skip)
     obtain ⟨t189, A100, H⟩ := oB H; replace H : (za0.j0 k (l0_2.length : Int) (!t189) a0_0 a0_1 l0_2 l0_3) = some r := H; have A10 := am A100; clear A100; have H' := am H; clear H; obtain ⟨hcz11_0, hcz11_1, hcz11_2, hcz11_3⟩ := bc4 BK186.out; obtain ⟨hfz11_0, hfz11_1, hfz11_2, hfz11_3⟩ := bf4 BK186.out
     go_wp2_with (first | ((with_reducible refine yg0 (f := 117) rfl ?_); refine xu0 (some 13) Tryd.func117 #[.int .i64 a0_0] rfl rfl rfl (h := ?_); (with_reducible refine (qb0.calls a0_0 true _ A5.out).mono ?_); rintro e w' ⟨rfl, ⟨nd, rfl⟩⟩; refine ⟨_, rfl, ?_⟩) | (go_at_call 85; (with_reducible refine (yy0.calls (l0_2.length : Int) 1 150 true _ A7.out).mono ?_); rintro e w' ⟨rfl, ⟨nd, rfl⟩⟩) | (go_at_call 85; (with_reducible refine (yy0.calls a0_1 0 (wrap64 ((l0_2.length : Int) - 1)) t189 _ A10.out).mono ?_); rintro e w' ⟨rfl, ⟨nd, rfl⟩⟩))
     go_meet
     case rel => exact ⟨_, (!t189), (tF), H', ⟨by first | omega | exact Nat.le_refl _⟩, ⟨by refine tBk ?_; exact BK186.out⟩, ⟨tB⟩⟩
    ·rw [if_neg c9] at H; have c9b0 : ((l0_3.length : Int) == (l0_2.length : Int)) = false := beq_eq_false_iff_ne.mpr c9; have c9b1 : ((l0_3.length : Int) != (l0_2.length : Int)) = true := bne_iff_ne.mpr c9
     have c9b2 : (l0_3.length == l0_2.length) = false := by first | simpa using c9 | (simp at c9 ⊢; omega)
     (first | rw [c9b0] | (simp only [jp0, ku0]; rw [c9b0]) | skip)
     have H' := am H; clear H; obtain ⟨hcz12_0, hcz12_1, hcz12_2, hcz12_3⟩ := bc4 BK186.out; obtain ⟨hfz12_0, hfz12_1, hfz12_2, hfz12_3⟩ := bf4 BK186.out
     go_wp2_with (first | ((with_reducible refine yg0 (f := 117) rfl ?_); refine xu0 (some 13) Tryd.func117 #[.int .i64 a0_0] rfl rfl rfl (h := ?_); (with_reducible refine (qb0.calls a0_0 true _ A5.out).mono ?_); rintro e w' ⟨rfl, ⟨nd, rfl⟩⟩; refine ⟨_, rfl, ?_⟩) | (go_at_call 85; (with_reducible refine (yy0.calls (l0_2.length : Int) 1 150 true _ A7.out).mono ?_); rintro e w' ⟨rfl, ⟨nd, rfl⟩⟩))
     go_meet
     case rel => exact ⟨_, (true), (tF), H', ⟨by first | omega | exact Nat.le_refl _⟩, ⟨by refine tBk ?_; exact BK186.out⟩, ⟨tB⟩⟩
   ·replace c8 := Bool.eq_false_iff.mpr c8; subst c8; (have H1 : (za0.j0 k (l0_2.length : Int) true a0_0 a0_1 l0_2 l0_3) = some r := by rw [if_neg (show ¬ (false = true) by decide)] at H; exact H); clear H; have H := H1; clear H1; have H' := am H; clear H; obtain ⟨hcz13_0, hcz13_1, hcz13_2, hcz13_3⟩ := bc4 BK186.out; obtain ⟨hfz13_0, hfz13_1, hfz13_2, hfz13_3⟩ := bf4 BK186.out
    go_wp2_with (first | ((with_reducible refine yg0 (f := 117) rfl ?_); refine xu0 (some 13) Tryd.func117 #[.int .i64 a0_0] rfl rfl rfl (h := ?_); (with_reducible refine (qb0.calls a0_0 true _ A5.out).mono ?_); rintro e w' ⟨rfl, ⟨nd, rfl⟩⟩; refine ⟨_, rfl, ?_⟩) | (go_at_call 85; (with_reducible refine (yy0.calls (l0_2.length : Int) 1 150 false _ A7.out).mono ?_); rintro e w' ⟨rfl, ⟨nd, rfl⟩⟩))
    go_meet
    case rel => exact ⟨_, (true), (tF), H', ⟨by first | omega | exact Nat.le_refl _⟩, ⟨by refine tBk ?_; exact BK186.out⟩, ⟨tB⟩⟩
  ·replace c6 := Bool.eq_false_iff.mpr c6; subst c6; (have H1 : (za0.j0 k (l0_2.length : Int) true a0_0 a0_1 l0_2 l0_3) = some r := by rw [if_neg (show ¬ (false = true) by decide)] at H; exact H); clear H; have H := H1; clear H1; have H' := am H; clear H; obtain ⟨hcz14_0, hcz14_1, hcz14_2, hcz14_3⟩ := bc4 BK186.out; obtain ⟨hfz14_0, hfz14_1, hfz14_2, hfz14_3⟩ := bf4 BK186.out
   go_wp2_with (first | ((with_reducible refine yg0 (f := 117) rfl ?_); refine xu0 (some 13) Tryd.func117 #[.int .i64 a0_0] rfl rfl rfl (h := ?_); (with_reducible refine (qb0.calls a0_0 false _ A5.out).mono ?_); rintro e w' ⟨rfl, ⟨nd, rfl⟩⟩; refine ⟨_, rfl, ?_⟩))
   go_meet
   case rel => exact ⟨_, (true), (tF), H', ⟨by first | omega | exact Nat.le_refl _⟩, ⟨by refine tBk ?_; exact BK186.out⟩, ⟨tB⟩⟩
 case rest =>
  clear HC2
  try clear c1; try clear p2; try clear c6; try clear p6; try clear c8; try clear c9; try clear c9b0; try clear c9b1; try clear c9b2; try clear c11; try clear hcz11_0; try clear hcz11_1; try clear hcz11_2; try clear hcz11_3; try clear hcz12_0; try clear hcz12_1; try clear hcz12_2; try clear hcz12_3; try clear hcz13_0; try clear hcz13_1; try clear hcz13_2; try clear hcz13_3; try clear hcz14_0; try clear hcz14_1; try clear hcz14_2; try clear hcz14_3; try clear hcz4_0; try clear hcz4_1; try clear hcz4_2; try clear hcz4_3; try clear hfz11_0; try clear hfz11_1; try clear hfz11_2; try clear hfz11_3; try clear hfz12_0; try clear hfz12_1; try clear hfz12_2; try clear hfz12_3; try clear hfz13_0; try clear hfz13_1; try clear hfz13_2; try clear hfz13_3; try clear hfz14_0; try clear hfz14_1; try clear hfz14_2; try clear hfz14_3; try clear hfz4_0; try clear hfz4_1; try clear hfz4_2; try clear hfz4_3
  obtain ⟨kq, x34_1, rfl, HA, HJ1, BK186, HB⟩ := hcut
  cases kq with
  | zero => exact absurd HA.out (by simp [za0.j0])
  | succ kj1 =>
   have H := HA.out; clear HA; simp only [za0.j0] at H; by_cases c15 : x34_1 = true
   ·subst c15; (have H1 : (some false) = some r := by rw [if_pos rfl] at H; exact H); clear H; have H := H1; clear H1; obtain rfl := Option.some.inj H; go_wp2; go_ret; exact ⟨tE, tB⟩
   ·replace c15 := Bool.eq_false_iff.mpr c15; subst c15; (have H1 : (za0.l0 kj1 (l0_2.length : Int) l0_3 (l0_3.length : Int) 0 a0_0 a0_1 l0_2 l0_3) = some r := by rw [if_neg (show ¬ (false = true) by decide)] at H; exact H); clear H; have H := H1; clear H1; have H' := am H; clear H; obtain ⟨hcz16_0, hcz16_1, hcz16_2, hcz16_3⟩ := bc4 BK186.out; obtain ⟨hfz16_0, hfz16_1, hfz16_2, hfz16_3⟩ := bf4 BK186.out; go_wp2
    go_loopg [38] kj1 (fun kq v38 w' => ∃ (x38_2 : Int), v38 = .int .i64 x38_2 ∧ zd0 (za0.l0 kq (l0_2.length : Int) l0_3 (l0_3.length : Int) x38_2 a0_0 a0_1 l0_2 l0_3 = some r) ∧ zd0 (kq ≤ kj1) ∧ zd0 (w'.heap[gb186]? = some (.cells #[.int .i64 a0_0, .int .i64 a0_1, (.slice A0_2 l0_2.length c0_2), (.slice A0_3 l0_3.length c0_3)] 29 (0, 0))) ∧ zd0 (Below w.heap.size w w'))
    case atStart => exact ⟨(0), (tF), H', ⟨Nat.le_refl _⟩, ⟨by refine tBk ?_; exact BK186.out⟩, ⟨tB⟩⟩
    case round =>
     clear H'
     try clear c1; try clear p2; try clear c6; try clear p6; try clear c8; try clear c9; try clear c9b0; try clear c9b1; try clear c9b2; try clear c11; try clear c15; try clear hcz11_0; try clear hcz11_1; try clear hcz11_2; try clear hcz11_3; try clear hcz12_0; try clear hcz12_1; try clear hcz12_2; try clear hcz12_3; try clear hcz13_0; try clear hcz13_1; try clear hcz13_2; try clear hcz13_3; try clear hcz14_0; try clear hcz14_1; try clear hcz14_2; try clear hcz14_3; try clear hcz16_0; try clear hcz16_1; try clear hcz16_2; try clear hcz16_3; try clear hcz4_0; try clear hcz4_1; try clear hcz4_2; try clear hcz4_3; try clear hfz11_0; try clear hfz11_1; try clear hfz11_2; try clear hfz11_3; try clear hfz12_0; try clear hfz12_1; try clear hfz12_2; try clear hfz12_3; try clear hfz13_0; try clear hfz13_1; try clear hfz13_2; try clear hfz13_3; try clear hfz14_0; try clear hfz14_1; try clear hfz14_2; try clear hfz14_3; try clear hfz16_0; try clear hfz16_1; try clear hfz16_2; try clear hfz16_3; try clear hfz4_0; try clear hfz4_1; try clear hfz4_2; try clear hfz4_3; try clear p2; try clear p6
     obtain ⟨x38_2, rfl, HA, HK2, BK186, HB⟩ := hrel
     cases gk with
     | zero => exact absurd HA.out (by simp [za0.l0])
     | succ k2 =>
      have H := HA.out; clear HA; simp only [za0.l0] at H; by_cases c17 : x38_2 < (l0_3.length : Int)
      ·rw [if_pos c17] at H; have c17b0 := decide_eq_true c17; clear c17; by_cases c18 : 0 ≤ x38_2
       ·rw [if_pos c18] at H; have c18b0 := decide_eq_true c18; clear c18; by_cases c19 : x38_2 < (l0_3.length : Int)
        ·rw [if_pos c19] at H; have c19b0 := decide_eq_true c19; clear c19; obtain ⟨t191, A200, H⟩ := oB H; replace H : (if ((rd_L2 l0_3 x38_2).length : Int) = t191 then (za0.l1 k2 (l0_2.length : Int) l0_3 (l0_3.length : Int) x38_2 (rd_L2 l0_3 x38_2) ((rd_L2 l0_3 x38_2).length : Int) 0 a0_0 a0_1 l0_2 l0_3) else (some false)) = some r := H; have A20 := am A200; clear A200; by_cases c21 : ((rd_L2 l0_3 x38_2).length : Int) = t191
         ·rw [if_pos c21] at H; have c21b0 : (((rd_L2 l0_3 x38_2).length : Int) == t191) = true := beq_iff_eq.mpr c21; have c21b1 : (((rd_L2 l0_3 x38_2).length : Int) != t191) = false := bne_eq_false_iff_eq.mpr c21; clear c21; have H' := am H; clear H; have p190 : 0 ≤ (x38_2 : Int) := oA; have q190 : x38_2 < (l0_3.length : Int) := oA; obtain ⟨ad190, A190_0, c190_0, e190, hx190_0, hl190_0, hi190_0⟩ := kf0 HR0_3.out x38_2 p190 q190; cases e190; replace hx190_0 := (HB.out.cell (World.block_lt_of_cell? w _ hx190_0)).trans hx190_0; have HR190_0 := am hi190_0; have HC190_0 := am hl190_0; clear hi190_0 hl190_0; replace p190 := eq_true p190; replace q190 := eq_true q190; obtain ⟨hcz22_0, hcz22_1, hcz22_2, hcz22_3⟩ := bc4 BK186.out; obtain ⟨hfz22_0, hfz22_1, hfz22_2, hfz22_3⟩ := bf4 BK186.out
          go_wp2_with (first | ((with_reducible refine yg0 (f := 118) rfl ?_); refine xu0 (some 46) Tryd.func118 #[.int .i64 a0_0] rfl rfl rfl (h := ?_); (with_reducible refine (zy0.calls k2 a0_0 t191 _ A20.out).mono ?_); rintro e w' ⟨rfl, ⟨nd, rfl⟩⟩; refine ⟨_, rfl, ?_⟩))
          go_loopg [50] k2 (fun kq v50 w' => ∃ (x50_3 : Int), v50 = .int .i64 x50_3 ∧ zd0 (za0.l1 kq (l0_2.length : Int) l0_3 (l0_3.length : Int) x38_2 (rd_L2 l0_3 x38_2) ((rd_L2 l0_3 x38_2).length : Int) x50_3 a0_0 a0_1 l0_2 l0_3 = some r) ∧ zd0 (kq ≤ k2) ∧ zd0 (w'.heap[gb186]? = some (.cells #[.int .i64 a0_0, .int .i64 a0_1, (.slice A0_2 l0_2.length c0_2), (.slice (some ad190) l0_3.length c0_3)] 29 (0, 0))) ∧ zd0 (Below w.heap.size w w'))
          case atStart => exact ⟨(0), (tF), H', ⟨Nat.le_refl _⟩, ⟨by refine tBk ?_; exact BK186.out⟩, ⟨tB⟩⟩
          case round =>
           clear H'
           try clear c1; try clear p1; try clear q1; try clear hx1; try clear c2; try clear p2; try clear c6; try clear p6; try clear c8; try clear c9; try clear c9b0; try clear c9b1; try clear c9b2; try clear c11; try clear c15; try clear c17; try clear c17b0; try clear c18; try clear c18b0; try clear c19; try clear c19b0; try clear p19; try clear q19; try clear hx19; try clear c21; try clear c21b0; try clear c21b1; try clear hcz11_0; try clear hcz11_1; try clear hcz11_2; try clear hcz11_3; try clear hcz12_0; try clear hcz12_1; try clear hcz12_2; try clear hcz12_3; try clear hcz13_0; try clear hcz13_1; try clear hcz13_2; try clear hcz13_3; try clear hcz14_0; try clear hcz14_1; try clear hcz14_2; try clear hcz14_3; try clear hcz16_0; try clear hcz16_1; try clear hcz16_2; try clear hcz16_3; try clear hcz22_0; try clear hcz22_1; try clear hcz22_2; try clear hcz22_3; try clear hcz4_0; try clear hcz4_1; try clear hcz4_2; try clear hcz4_3; try clear hfz11_0; try clear hfz11_1; try clear hfz11_2; try clear hfz11_3; try clear hfz12_0; try clear hfz12_1; try clear hfz12_2; try clear hfz12_3; try clear hfz13_0; try clear hfz13_1; try clear hfz13_2; try clear hfz13_3; try clear hfz14_0; try clear hfz14_1; try clear hfz14_2; try clear hfz14_3; try clear hfz16_0; try clear hfz16_1; try clear hfz16_2; try clear hfz16_3; try clear hfz22_0; try clear hfz22_1; try clear hfz22_2; try clear hfz22_3; try clear hfz4_0; try clear hfz4_1; try clear hfz4_2; try clear hfz4_3; try clear hx190_0; try clear p190; try clear p2; try clear p6; try clear q190
           obtain ⟨x50_3, rfl, HA, HK3, BK186, HB⟩ := hrel
           cases gk with
           | zero => exact absurd HA.out (by simp [za0.l1])
           | succ k3 =>
            have H := HA.out; clear HA; simp only [za0.l1] at H; by_cases c23 : x50_3 < ((rd_L2 l0_3 x38_2).length : Int)
            ·rw [if_pos c23] at H; have c23b0 := decide_eq_true c23; clear c23; by_cases c24 : 0 ≤ x50_3
             ·rw [if_pos c24] at H; have c24b0 := decide_eq_true c24; clear c24; by_cases c25 : x50_3 < ((rd_L2 l0_3 x38_2).length : Int)
              ·rw [if_pos c25] at H; have c25b0 := decide_eq_true c25; clear c25; obtain ⟨t193, A260, H⟩ := oB H; replace H : (if t193 = true then (za0.l1 k3 (l0_2.length : Int) l0_3 (l0_3.length : Int) x38_2 (rd_L2 l0_3 x38_2) ((rd_L2 l0_3 x38_2).length : Int) (wrap64 (x50_3 + 1)) a0_0 a0_1 l0_2 l0_3) else (some false)) = some r := H; have A26 := am A260; clear A260; by_cases c27 : t193 = true
               ·subst c27; (have H1 : (za0.l1 k3 (l0_2.length : Int) l0_3 (l0_3.length : Int) x38_2 (rd_L2 l0_3 x38_2) ((rd_L2 l0_3 x38_2).length : Int) (wrap64 (x50_3 + 1)) a0_0 a0_1 l0_2 l0_3) = some r := by rw [if_pos rfl] at H; exact H); clear H; have H := H1; clear H1; have H' := am H; clear H; have p192 : 0 ≤ (x50_3 : Int) := oA; have q192 : x50_3 < ((rd_L2 l0_3 x38_2).length : Int) := oA; obtain ⟨ad192, e192, hx192_0⟩ := Kd.yk0 HR190_0.out x50_3 p192 q192; cases e192; replace hx192_0 := (HB.out.cell (World.block_lt_of_cell? w _ hx192_0)).trans hx192_0; replace p192 := eq_true p192; replace q192 := eq_true q192
                go_wp2_with (first | ((with_reducible refine yg0 (f := 85) rfl ?_); refine xu0 (some 57) Tryd.func85 #[.int .i64 (rd (rd_L2 l0_3 x38_2) x50_3), .int .i64 0, .int .i64 (wrap64 ((l0_2.length : Int) - 1))] rfl rfl rfl (h := ?_); (with_reducible refine (yy0.calls (rd (rd_L2 l0_3 x38_2) x50_3) 0 (wrap64 ((l0_2.length : Int) - 1)) true _ A26.out).mono ?_); rintro e w' ⟨rfl, ⟨nd, rfl⟩⟩; refine ⟨_, rfl, ?_⟩))
                go_roundg k3
                case measure => have := HJ1.out; have := HK2.out; have := HK3.out; omega
                case rel => exact ⟨(wrap64 (x50_3 + 1)), (tF), H', ⟨by have := HJ1.out; have := HK2.out; have := HK3.out; omega⟩, ⟨by refine tBk ?_; exact BK186.out⟩, ⟨tB⟩⟩
               ·replace c27 := Bool.eq_false_iff.mpr c27; subst c27; (have H1 : (some false) = some r := by rw [if_neg (show ¬ (false = true) by decide)] at H; exact H); clear H; have H := H1; clear H1; obtain rfl := Option.some.inj H; have p192 : 0 ≤ (x50_3 : Int) := oA; have q192 : x50_3 < ((rd_L2 l0_3 x38_2).length : Int) := oA; obtain ⟨ad192, e192, hx192_0⟩ := Kd.yk0 HR190_0.out x50_3 p192 q192; cases e192; replace hx192_0 := (HB.out.cell (World.block_lt_of_cell? w _ hx192_0)).trans hx192_0; replace p192 := eq_true p192; replace q192 := eq_true q192
                go_wp2_with (first | ((with_reducible refine yg0 (f := 85) rfl ?_); refine xu0 (some 57) Tryd.func85 #[.int .i64 (rd (rd_L2 l0_3 x38_2) x50_3), .int .i64 0, .int .i64 (wrap64 ((l0_2.length : Int) - 1))] rfl rfl rfl (h := ?_); (with_reducible refine (yy0.calls (rd (rd_L2 l0_3 x38_2) x50_3) 0 (wrap64 ((l0_2.length : Int) - 1)) false _ A26.out).mono ?_); rintro e w' ⟨rfl, ⟨nd, rfl⟩⟩; refine ⟨_, rfl, ?_⟩))
                go_ret; exact ⟨tE, tB⟩
              ·rw [if_neg c25] at H; exact absurd H (by simp)
             ·rw [if_neg c24] at H; exact absurd H (by simp)
            ·rw [if_neg c23] at H; have c23b0 := decide_eq_false c23; clear c23; have H' := am H; clear H; go_wp2; go_roundg k3
             case measure => have := HJ1.out; have := HK2.out; have := HK3.out; omega
             case rel => exact ⟨(wrap64 (x38_2 + 1)), (tF), H', ⟨by have := HJ1.out; have := HK2.out; have := HK3.out; omega⟩, ⟨by refine tBk ?_; exact BK186.out⟩, ⟨tB⟩⟩
         ·rw [if_neg c21] at H; have c21b0 : (((rd_L2 l0_3 x38_2).length : Int) == t191) = false := beq_eq_false_iff_ne.mpr c21; have c21b1 : (((rd_L2 l0_3 x38_2).length : Int) != t191) = true := bne_iff_ne.mpr c21; obtain rfl := Option.some.inj H; have p190 : 0 ≤ (x38_2 : Int) := oA; have q190 : x38_2 < (l0_3.length : Int) := oA; obtain ⟨ad190, A190_0, c190_0, e190, hx190_0, hl190_0, hi190_0⟩ := kf0 HR0_3.out x38_2 p190 q190; cases e190; replace hx190_0 := (HB.out.cell (World.block_lt_of_cell? w _ hx190_0)).trans hx190_0; have HR190_0 := am hi190_0; have HC190_0 := am hl190_0; clear hi190_0 hl190_0; replace p190 := eq_true p190; replace q190 := eq_true q190; obtain ⟨hcz28_0, hcz28_1, hcz28_2, hcz28_3⟩ := bc4 BK186.out; obtain ⟨hfz28_0, hfz28_1, hfz28_2, hfz28_3⟩ := bf4 BK186.out
          go_wp2_with (first | ((with_reducible refine yg0 (f := 118) rfl ?_); refine xu0 (some 46) Tryd.func118 #[.int .i64 a0_0] rfl rfl rfl (h := ?_); (with_reducible refine (zy0.calls k2 a0_0 t191 _ A20.out).mono ?_); rintro e w' ⟨rfl, ⟨nd, rfl⟩⟩; refine ⟨_, rfl, ?_⟩))
          go_ret; exact ⟨tE, tB⟩
        ·rw [if_neg c19] at H; exact absurd H (by simp)
       ·rw [if_neg c18] at H; exact absurd H (by simp)
      ·rw [if_neg c17] at H; have c17b0 := decide_eq_false c17; clear c17; obtain rfl := Option.some.inj H; go_wp2; go_ret; exact ⟨tE, tB⟩
def yd0.j0 : Nat → Bool → Int → Int → List Bool → List (List Int) → Int → Int → List Bool → List (List Int) → Option (Int)
 | 0, _, _, _, _, _, _, _, _, _ => none
 | k + 1, x5, x195000, x195001, x195002, x195003, x196000, x196001, x196002, x196003 => if x5 = true then (some 1) else (if x195000 = x196000 then (some 0) else (some 2))
def yd0.f (k : Nat) (a0_0 : Int) (a0_1 : Int) (l0_2 : List Bool) (l0_3 : List (List Int)) (a1_0 : Int) (a1_1 : Int) (l1_2 : List Bool) (l1_3 : List (List Int)) : Option (Int) := (za0.f k a0_0 a0_1 l0_2 l0_3).bind fun t196 => (if t196 = true then ((za0.f k a1_0 a1_1 l1_2 l1_3).bind fun t197 => (yd0.j0 k (!t197) a0_0 a0_1 l0_2 l0_3 a1_0 a1_1 l1_2 l1_3)) else (yd0.j0 k true a0_0 a0_1 l0_2 l0_3 a1_0 a1_1 l1_2 l1_3))
theorem yd0.mono_l : ∀ k, (∀ y0 y1 y2 y3 y4 y5 y6 y7 y8, LeO (yd0.j0 k y0 y1 y2 y3 y4 y5 y6 y7 y8) (yd0.j0 (k + 1) y0 y1 y2 y3 y4 y5 y6 y7 y8))
 | 0 => fun _ _ _ _ _ _ _ _ _ r h => by simp [yd0.j0] at h
 | k + 1 => by
  have ih0 := yd0.mono_l k
  ·intro y0 y1 y2 y3 y4 y5 y6 y7 y8; unfold yd0.j0
   repeat' first
   | (with_reducible exact ih0 _ _ _ _ _ _ _ _ _)
   | (with_reducible exact za0.mono _ _ _ _ _)
   | (with_reducible exact LeO.refl _)
   | (with_reducible exact LeO.none _)
   | (with_reducible refine LeO.ite ?_ ?_)
   | (with_reducible refine LeO.bind ?_ (fun _ => ?_))
   | exact ih0 _ _ _ _ _ _ _ _ _
   | exact za0.mono _ _ _ _ _
   | exact LeO.none _
   | refine LeO.ite ?_ ?_
   | refine LeO.bind ?_ (fun _ => ?_)
theorem yd0.mono : ∀ a0 a1 a2 a3 a4 a5 a6 a7 k, LeO (yd0.f k a0 a1 a2 a3 a4 a5 a6 a7) (yd0.f (k + 1) a0 a1 a2 a3 a4 a5 a6 a7) := by
 intro a0 a1 a2 a3 a4 a5 a6 a7 k; have ih0 := yd0.mono_l k; unfold yd0.f
 repeat' first
   | (with_reducible exact ih0 _ _ _ _ _ _ _ _ _)
   | (with_reducible exact za0.mono _ _ _ _ _)
   | (with_reducible exact LeO.refl _)
   | (with_reducible exact LeO.none _)
   | (with_reducible refine LeO.ite ?_ ?_)
   | (with_reducible refine LeO.bind ?_ (fun _ => ?_))
   | exact ih0 _ _ _ _ _ _ _ _ _
   | exact za0.mono _ _ _ _ _
   | exact LeO.none _
   | refine LeO.ite ?_ ?_
   | refine LeO.bind ?_ (fun _ => ?_)
theorem yd0.calls (k : Nat) (a0_0 : Int) (a0_1 : Int) (A0_2 : Option Addr) (c0_2 : Nat) (l0_2 : List Bool) (A0_3 : Option Addr) (c0_3 : Nat) (l0_3 : List (List Int)) (a1_0 : Int) (a1_1 : Int) (A1_2 : Option Addr) (c1_2 : Nat) (l1_2 : List Bool) (A1_3 : Option Addr) (c1_3 : Nat) (l1_3 : List (List Int)) (r : Int) (w : World) (hr0_2 : Kd.C Kd.bool w A0_2 l0_2.length l0_2) (hc0_2 : l0_2.length ≤ c0_2) (hr0_3 : Kd.C (Kd.slice 2 (Kd.int .i64)) w A0_3 l0_3.length l0_3) (hc0_3 : l0_3.length ≤ c0_3) (hr1_2 : Kd.C Kd.bool w A1_2 l1_2.length l1_2) (hc1_2 : l1_2.length ≤ c1_2) (hr1_3 : Kd.C (Kd.slice 2 (Kd.int .i64)) w A1_3 l1_3.length l1_3) (hc1_3 : l1_3.length ≤ c1_3) (h : yd0.f k a0_0 a0_1 l0_2 l0_3 a1_0 a1_1 l1_2 l1_3 = some r) :
  Calls Tryd.prog 57 #[.agg #[.int .i64 a0_0, .int .i64 a0_1, .slice A0_2 l0_2.length c0_2, .slice A0_3 l0_3.length c0_3], .agg #[.int .i64 a1_0, .int .i64 a1_1, .slice A1_2 l1_2.length c1_2, .slice A1_3 l1_3.length c1_3]] w fun e w' => e = .returned (.int .i64 r) ∧ Below w.heap.size w w' := by
 have hu29 := Tryd.underlying29; have HR0_2 := am hr0_2; have HC0_2 := am hc0_2; clear hr0_2 hc0_2; have HR0_3 := am hr0_3; have HC0_3 := am hc0_3; clear hr0_3 hc0_3; have HR1_2 := am hr1_2; have HC1_2 := am hc1_2; clear hr1_2 hc1_2; have HR1_3 := am hr1_3; have HC1_3 := am hc1_3; clear hr1_3 hc1_3; have HB := am (Below.refl w.heap.size w); have H : ((za0.f k a0_0 a0_1 l0_2 l0_3).bind fun t196 => (if t196 = true then ((za0.f k a1_0 a1_1 l1_2 l1_3).bind fun t197 => (yd0.j0 k (!t197) a0_0 a0_1 l0_2 l0_3 a1_0 a1_1 l1_2 l1_3)) else (yd0.j0 k true a0_0 a0_1 l0_2 l0_3 a1_0 a1_1 l1_2 l1_3))) = some r := h; clear h; have HC3 := am H; clear H; go_enter Tryd.func57, Tryd.ntmps57
 go_upto_region 1 with (first | ((with_reducible refine yi0 (N := 2) rfl ?_); refine boxA 2 #[.int .i64 a0_0, .int .i64 a0_1, .slice A0_2 l0_2.length c0_2, .slice A0_3 l0_3.length c0_3] 29 rfl rfl (h := ?_); intro gb194 hg w4 hbox hb; have BK194 := am (hbox); have GW194 := am ((by rw [hg]; exact (zm0 (tB)) : w.heap.size ≤ gb194)); have GE194 := am ((by rw [hg]; exact (zm0 (tB)) : w.heap.size ≤ gb194)); replace HB := am (zr0 (tB) hb); clear hb hbox hg) | ((with_reducible refine yi0 (N := 3) rfl ?_); refine boxA 3 #[.int .i64 a1_0, .int .i64 a1_1, .slice A1_2 l1_2.length c1_2, .slice A1_3 l1_3.length c1_3] 29 rfl rfl (h := ?_); intro gb195 hg w5 hbox hb; have BK195 := am (hbox); have GW195 := am ((by rw [hg]; exact (zm0 (tB)) : w.heap.size ≤ gb195)); have GE195 := am ((by rw [hg]; exact (zm0 (tB)) : w.heap.size ≤ gb195)); have NB194_195 := am ((by rw [hg]; exact Nat.ne_of_lt (bkl BK194.out) : gb194 ≠ gb195)); have NB195_194 := am ((by rw [hg]; exact Nat.ne_of_gt (bkl BK194.out) : gb195 ≠ gb194)); replace BK194 := am (bkb BK194.out hb); replace HB := am (zr0 (tB) hb); clear hb hbox hg))
 (try simp only [Act.put, List.setIfInBounds_toArray, List.set_cons_zero, List.set_cons_succ])
 go_cut [5] (fun v5 wc => ∃ (kq : Nat) (x5_2 : Bool), v5 = .bool x5_2 ∧ zd0 (yd0.j0 kq x5_2 a0_0 a0_1 l0_2 l0_3 a1_0 a1_1 l1_2 l1_3 = some r) ∧ zd0 (kq ≤ k) ∧ zd0 (wc.heap[gb194]? = some (.cells #[.int .i64 a0_0, .int .i64 a0_1, (.slice A0_2 l0_2.length c0_2), (.slice A0_3 l0_3.length c0_3)] 29 (0, 0))) ∧ zd0 (wc.heap[gb195]? = some (.cells #[.int .i64 a1_0, .int .i64 a1_1, (.slice A1_2 l1_2.length c1_2), (.slice A1_3 l1_3.length c1_3)] 29 (0, 0))) ∧ zd0 (Below w.heap.size w wc))
 case first =>
  have H := HC3.out; clear HC3; obtain ⟨t196, A60, H⟩ := oB H; replace H : (if t196 = true then ((za0.f k a1_0 a1_1 l1_2 l1_3).bind fun t197 => (yd0.j0 k (!t197) a0_0 a0_1 l0_2 l0_3 a1_0 a1_1 l1_2 l1_3)) else (yd0.j0 k true a0_0 a0_1 l0_2 l0_3 a1_0 a1_1 l1_2 l1_3)) = some r := H; have A6 := am A60; clear A60; by_cases c7 : t196 = true
  ·subst c7; (have H1 : ((za0.f k a1_0 a1_1 l1_2 l1_3).bind fun t197 => (yd0.j0 k (!t197) a0_0 a0_1 l0_2 l0_3 a1_0 a1_1 l1_2 l1_3)) = some r := by rw [if_pos rfl] at H; exact H); clear H; have H := H1; clear H1; obtain ⟨t197, A80, H⟩ := oB H; replace H : (yd0.j0 k (!t197) a0_0 a0_1 l0_2 l0_3 a1_0 a1_1 l1_2 l1_3) = some r := H; have A8 := am A80; clear A80; have H' := am H; clear H; have hnb9 := NB194_195.out; have hnc9 := NB195_194.out; obtain ⟨hcz10_0, hcz10_1, hcz10_2, hcz10_3⟩ := bc4 BK194.out; obtain ⟨hfz10_0, hfz10_1, hfz10_2, hfz10_3⟩ := bf4 BK194.out
   go_wp2_with (first | ((with_reducible refine yg0 (f := 65) rfl ?_); refine xu0 (some 7) Tryd.func65 #[.agg #[.int .i64 a0_0, .int .i64 a0_1, .slice A0_2 l0_2.length c0_2, .slice A0_3 l0_3.length c0_3]] rfl rfl rfl (h := ?_); (with_reducible refine (za0.calls k a0_0 a0_1 _ _ l0_2 _ _ l0_3 true _ ?side1 ?side2 ?side3 ?side4 A6.out).mono ?_); (case side1 => exact tC (Kd.zv0 HR0_2.out HB.out)); (case side2 => exact HC0_2.out); (case side3 => exact tC (Kd.zv0 HR0_3.out HB.out)); (case side4 => exact HC0_3.out); rintro e w11 ⟨rfl, hb⟩; refine ⟨_, rfl, ?_⟩; replace BK194 := am (bkb BK194.out hb); replace BK195 := am (bkb BK195.out hb); replace HB := am (zr0 (tB) hb); (try clear hb); (try clear hb2); (try clear hk); (try clear hi); obtain ⟨hcz12_0, hcz12_1, hcz12_2, hcz12_3⟩ := bc4 BK195.out; have hfz12_0 := zb0 BK195.out 0; have hfz12_1 := zb0 BK195.out 1; have hfz12_2 := zb0 BK195.out 2; have hfz12_3 := zb0 BK195.out 3) | (go_at_call 65; (with_reducible refine (za0.calls k a1_0 a1_1 _ _ l1_2 _ _ l1_3 t197 _ ?side1 ?side2 ?side3 ?side4 A8.out).mono ?_); (case side1 => exact tC (Kd.zv0 HR1_2.out HB.out)); (case side2 => exact HC1_2.out); (case side3 => exact tC (Kd.zv0 HR1_3.out HB.out)); (case side4 => exact HC1_3.out); rintro e w13 ⟨rfl, hb⟩; replace BK194 := am (bkb BK194.out hb); replace BK195 := am (bkb BK195.out hb); replace HB := am (zr0 (tB) hb); (try clear hb); (try clear hb2); (try clear hk); (try clear hi)))
   go_meet
   case rel => exact ⟨_, (!t197), (tF), H', ⟨by first | omega | exact Nat.le_refl _⟩, ⟨by refine tBk ?_; exact BK194.out⟩, ⟨by refine tBk ?_; exact BK195.out⟩, ⟨tB⟩⟩
  ·replace c7 := Bool.eq_false_iff.mpr c7; subst c7; (have H1 : (yd0.j0 k true a0_0 a0_1 l0_2 l0_3 a1_0 a1_1 l1_2 l1_3) = some r := by rw [if_neg (show ¬ (false = true) by decide)] at H; exact H); clear H; have H := H1; clear H1; have H' := am H; clear H; have hnb14 := NB194_195.out; have hnc14 := NB195_194.out; obtain ⟨hcz15_0, hcz15_1, hcz15_2, hcz15_3⟩ := bc4 BK194.out; obtain ⟨hfz15_0, hfz15_1, hfz15_2, hfz15_3⟩ := bf4 BK194.out
   go_wp2_with (first | ((with_reducible refine yg0 (f := 65) rfl ?_); refine xu0 (some 7) Tryd.func65 #[.agg #[.int .i64 a0_0, .int .i64 a0_1, .slice A0_2 l0_2.length c0_2, .slice A0_3 l0_3.length c0_3]] rfl rfl rfl (h := ?_); (with_reducible refine (za0.calls k a0_0 a0_1 _ _ l0_2 _ _ l0_3 false _ ?side1 ?side2 ?side3 ?side4 A6.out).mono ?_); (case side1 => exact tC (Kd.zv0 HR0_2.out HB.out)); (case side2 => exact HC0_2.out); (case side3 => exact tC (Kd.zv0 HR0_3.out HB.out)); (case side4 => exact HC0_3.out); rintro e w16 ⟨rfl, hb⟩; refine ⟨_, rfl, ?_⟩; replace BK194 := am (bkb BK194.out hb); replace BK195 := am (bkb BK195.out hb); replace HB := am (zr0 (tB) hb); (try clear hb); (try clear hb2); (try clear hk); (try clear hi)))
   go_meet
   case rel => exact ⟨_, (true), (tF), H', ⟨by first | omega | exact Nat.le_refl _⟩, ⟨by refine tBk ?_; exact BK194.out⟩, ⟨by refine tBk ?_; exact BK195.out⟩, ⟨tB⟩⟩
 case rest =>
  clear HC3
  try clear c1; try clear p2; try clear c5; try clear c6; try clear c7; try clear c9; try clear c14; try clear hcz10_0; try clear hcz10_1; try clear hcz10_2; try clear hcz10_3; try clear hcz12_0; try clear hcz12_1; try clear hcz12_2; try clear hcz12_3; try clear hcz15_0; try clear hcz15_1; try clear hcz15_2; try clear hcz15_3; try clear hfz10_0; try clear hfz10_1; try clear hfz10_2; try clear hfz10_3; try clear hfz12_0; try clear hfz12_1; try clear hfz12_2; try clear hfz12_3; try clear hfz15_0; try clear hfz15_1; try clear hfz15_2; try clear hfz15_3
  obtain ⟨kq, x5_2, rfl, HA, HJ2, BK194, BK195, HB⟩ := hcut
  cases kq with
  | zero => exact absurd HA.out (by simp [yd0.j0])
  | succ kj2 =>
   have H := HA.out; clear HA; simp only [yd0.j0] at H; by_cases c17 : x5_2 = true
   ·subst c17; (have H1 : (some 1) = some r := by rw [if_pos rfl] at H; exact H); clear H; have H := H1; clear H1; obtain rfl := Option.some.inj H; go_wp2; go_ret; exact ⟨tE, tB⟩
   ·replace c17 := Bool.eq_false_iff.mpr c17; subst c17; (have H1 : (if a0_0 = a1_0 then (some 0) else (some 2)) = some r := by rw [if_neg (show ¬ (false = true) by decide)] at H; exact H); clear H; have H := H1; clear H1; by_cases c18 : a0_0 = a1_0
    ·rw [if_pos c18] at H; have c18b0 : (a0_0 == a1_0) = true := beq_iff_eq.mpr c18; have c18b1 : (a0_0 != a1_0) = false := bne_eq_false_iff_eq.mpr c18; clear c18; obtain rfl := Option.some.inj H; have hnb19 := NB194_195.out; have hnc19 := NB195_194.out; obtain ⟨hcz20_0, hcz20_1, hcz20_2, hcz20_3⟩ := bc4 BK194.out; obtain ⟨hfz20_0, hfz20_1, hfz20_2, hfz20_3⟩ := bf4 BK194.out; obtain ⟨hcz21_0, hcz21_1, hcz21_2, hcz21_3⟩ := bc4 BK195.out; obtain ⟨hfz21_0, hfz21_1, hfz21_2, hfz21_3⟩ := bf4 BK195.out; go_wp2; go_ret; exact ⟨tE, tB⟩
    ·rw [if_neg c18] at H; have c18b0 : (a0_0 == a1_0) = false := beq_eq_false_iff_ne.mpr c18; have c18b1 : (a0_0 != a1_0) = true := bne_iff_ne.mpr c18; obtain rfl := Option.some.inj H; have hnb22 := NB194_195.out; have hnc22 := NB195_194.out; obtain ⟨hcz23_0, hcz23_1, hcz23_2, hcz23_3⟩ := bc4 BK194.out; obtain ⟨hfz23_0, hfz23_1, hfz23_2, hfz23_3⟩ := bf4 BK194.out; obtain ⟨hcz24_0, hcz24_1, hcz24_2, hcz24_3⟩ := bc4 BK195.out; obtain ⟨hfz24_0, hfz24_1, hfz24_2, hfz24_3⟩ := bf4 BK195.out; go_wp2; go_ret; exact ⟨tE, tB⟩
end Go.Proofs.YtocfcpicleomcaaDoor.X
