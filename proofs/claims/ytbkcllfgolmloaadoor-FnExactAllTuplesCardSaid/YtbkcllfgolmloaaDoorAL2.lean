import Derived.Test.YtbkcllfgolmloaaDoorProg
import Derived.Below
import Derived.Deep.Draws
import Derived.Deep.AppendLies
import Derived.Maps.AppendAt
import Derived.OwnWalk
import Derived.Laws.BytesArg
import Derived.Laws.MakeOwn
import Derived.Laws.OwnMore
import Derived.Deep.OwnRows
import Derived.Tactics
import Derived.Lib.ConvBytes
import Derived.Laws.Slices
import Derived.WalkKit
import Derived.KernelRfl
import Derived.RowKit3
import Derived.Deep.LoopGhost
import Derived.Deep.QuietTactic
import Derived.BigQuiet
import Derived.WideLaws
import Derived.Deep.DeepCutAuto
import Derived.Deep.CutBlock
import Derived.Deep.RegionHeld3
import Derived.Laws.Rows
import Derived.Lib.AppendStr
import Derived.ArgAppend
import Derived.Laws.IdiomCopy
import Derived.OrdersHeld
import Derived.Laws.BitsLemmas
import Derived.RowKit
import Derived.Test.YtbkcllfgolmloaaDoorAL0
import Derived.Test.YtbkcllfgolmloaaDoorAL1
import Derived.Maps.OwnSet
import Derived.Maps.Ext
import Derived.Carry
import Derived.Outline
-- Written by a program of this claim's author, out of the translation.
namespace Go.Proofs.YtbkcllfgolmloaaDoor.X
open Go.RowKit Go.Proofs.YtbkcllfgolmloaaDoorW.PrintWords Go.Proofs.YtbkcllfgolmloaaDoorW.PrintLast Go.Proofs.YtbkcllfgolmloaaDoorW.PrintMore
attribute [local go_sem] max2_int min2_int max_two min_two max_three min_three max_four min_four   -- for this text's walks alone
set_option linter.unusedVariables false
set_option linter.unusedSimpArgs false
def errW : Option Int → Value
 | none => .nilIface
 | some c => .iface 0 (.int .i64 c)
theorem errW_none : errW none = .nilIface := rfl
theorem errW_some (c : Int) : errW (some c) = .iface 0 (.int .i64 c) := rfl
theorem info2 : (Tryd.prog.info? 2).map (fun i => (i.zero, i.size, i.bytes)) = some (some (.int .i64 0), 1, 8) := by kernel_rfl
theorem info3 : (Tryd.prog.info? 3).map (fun i => (i.zero, i.size, i.bytes)) = some (some (.int .i64 0), 1, 8) := by kernel_rfl
theorem info4 : (Tryd.prog.info? 4).map (fun i => (i.zero, i.size, i.bytes)) = some (some (.bool false), 1, 1) := by kernel_rfl
theorem info55 : (Tryd.prog.info? 55).map (fun i => (i.zero, i.size, i.bytes)) = some (some (.slice none 0 0), 1, 24) := by kernel_rfl
-- the values' own types
def rd_L2 (xs : List (List Int)) (i : Int) : (List Int) := xs.getD i.toNat ([] : List Int)
theorem at_L2 {w : World} {A : Option Addr} {n : Nat} {xs : List (List Int)} (h : Kd.C (Kd.slice 2 (Kd.int .i64)) w A n xs) (i : Int) (h0 : 0 ≤ i) (h1 : i < n) : ∃ ad A0 c0, A = some ad ∧ w.cell? (ad.add i.toNat) = some (.slice A0 (rd_L2 xs i).length c0) ∧ (rd_L2 xs i).length ≤ c0 ∧ (Kd.int .i64).C w A0 (rd_L2 xs i).length (rd_L2 xs i) := by
 obtain ⟨ad, c, e, _, hK, hc0⟩ := Kd.C_get h ([] : List Int) i h0 h1
 have hc : ∀ j u, c[j]? = some u → w.cell? (ad.add (i.toNat * 1 + j)) = some u := hc0
 obtain ⟨A0, c0, rfl, l0, g0⟩ := hK
 exact ⟨ad, A0, c0, e, by have hq := hc 0 _ rfl; rwa [Nat.mul_one, Nat.add_zero] at hq, l0, g0⟩
def rd_L7 (xs : List (List Int)) (i : Int) : (List Int) := xs.getD i.toNat ([] : List Int)
theorem at_L7 {w : World} {A : Option Addr} {n : Nat} {xs : List (List Int)} (h : Kd.C (Kd.slice 3 (Kd.int .i64)) w A n xs) (i : Int) (h0 : 0 ≤ i) (h1 : i < n) : ∃ ad A0 c0, A = some ad ∧ w.cell? (ad.add i.toNat) = some (.slice A0 (rd_L7 xs i).length c0) ∧ (rd_L7 xs i).length ≤ c0 ∧ (Kd.int .i64).C w A0 (rd_L7 xs i).length (rd_L7 xs i) := by
 obtain ⟨ad, c, e, _, hK, hc0⟩ := Kd.C_get h ([] : List Int) i h0 h1
 have hc : ∀ j u, c[j]? = some u → w.cell? (ad.add (i.toNat * 1 + j)) = some u := hc0
 obtain ⟨A0, c0, rfl, l0, g0⟩ := hK
 exact ⟨ad, A0, c0, e, by have hq := hc 0 _ rfl; rwa [Nat.mul_one, Nat.add_zero] at hq, l0, g0⟩
end Go.Proofs.YtbkcllfgolmloaaDoor.X

-- Written by a program of this claim's author, out of the translation.
namespace Go.Proofs.YtbkcllfgolmloaaDoor.X
open Go.RowKit Go.Proofs.YtbkcllfgolmloaaDoorW.PrintWords Go.Proofs.YtbkcllfgolmloaaDoorW.PrintLast Go.Proofs.YtbkcllfgolmloaaDoorW.PrintMore
attribute [local go_sem] max2_int min2_int max_two min_two max_three min_three max_four min_four   -- for this text's walks alone
set_option linter.unusedVariables false
set_option linter.unusedSimpArgs false
def laws_markInt64S.l0 : Nat → List Int → Int → Int → Option (Int × List Int)
 | 0, _, _, _ => none
 | k + 1, x0, x1, x5 => if x5 < (x0.length : Int) then (if 0 ≤ x5 then (laws_markInt64S.l0 k (x0.set (x5 : Int).toNat x1) (wrap64 (x1 + 1)) (wrap64 (x5 + 1))) else (none)) else (some (x1, x0))
def laws_markInt64S.f (k : Nat) (l0 : List Int) (a1 : Int) : Option (Int × List Int) := laws_markInt64S.l0 k l0 a1 0
set_option maxHeartbeats 8000000 in
set_option maxRecDepth 100000 in
theorem laws_markInt64S.calls (k : Nat) (P0_ : Nat → Prop) (u9000_ : Value) (l0 : List Int) (a1 : Int) (r1 : Int) (r2 : List Int) (w0 w : World) (hB : Below w0.heap.size w0 w) (ho0 : Kd.R (Kd.int .i64) 2 w w0.heap.size P0_ u9000_ l0) (h : laws_markInt64S.f k l0 a1 = some (r1, r2)) :
  Calls Tryd.prog 120 #[u9000_, .int .i64 a1] w fun e w' => e = .returned (.int .i64 r1) ∧ Kd.R (Kd.int .i64) 2 w' w0.heap.size (fun k_ => (P0_ k_ ∨ w.heap.size ≤ k_)) u9000_ r2 ∧ Below w0.heap.size w0 w' ∧ Kept w w' (fun k_ => P0_ k_) := by
 have HO0 := Aside0.mk (show Kd.R (Kd.int .i64) 2 w w0.heap.size (fun k_ => (P0_ k_ ∨ w.heap.size ≤ k_)) u9000_ l0 from Kd.R_mono ho0 (fun k_ hk => (.inl hk)))
 have HK := Aside0.mk (Kept.refl w (fun k_ => P0_ k_))
 have HW0 := Aside0.mk hB.size
 have HB := Aside0.mk hB
 clear hB
 have H : (laws_markInt64S.l0 k l0 a1 0) = some (r1, r2) := h
 clear h
 have H' := Aside0.mk H
 clear H
 go_enter Tryd.func120, Tryd.ntmps120
 go_wp2
 go_loopg [1, 5] k (fun kq v1 v5 w' => ∃ (x0_1 : List Int) (x1_1 : Int) (x5_1 : Int), v1 = .int .i64 x1_1 ∧ v5 = .int .i64 x5_1 ∧ Aside0 (laws_markInt64S.l0 kq x0_1 x1_1 x5_1 = some (r1, r2)) ∧ Aside0 (kq ≤ k) ∧ Aside0 (Kd.R (Kd.int .i64) 2 w' w0.heap.size (fun k_ => (P0_ k_ ∨ w.heap.size ≤ k_)) u9000_ x0_1) ∧ Aside0 (Kept w w' (fun k_ => P0_ k_)) ∧ Aside0 (Below w0.heap.size w0 w'))
 case atStart => exact ⟨(l0), (a1), (0), (by first | rfl | (simp; done) | (simp [*]; done)), (by first | rfl | (simp; done) | (simp [*]; done)), H', ⟨Nat.le_refl _⟩, ⟨by (with_reducible repeat (first | apply Kd.R_alloc | apply Kd.R_drewN | apply Kd.R_drew)); exact HO0.out⟩, ⟨by repeat (first | (with_reducible first | exact HK.out | apply Kept.alloc | apply Kept.drewN | apply Kept.drew) | exact HK.out)⟩, ⟨by repeat (first | (with_reducible first | exact HB.out | apply below_alloc | apply pw_below_drewN | apply below_drew1) | exact HB.out)⟩⟩
 case round =>
  clear H'
  try clear c1
  try clear p2
  obtain ⟨x0_1, x1_1, x5_1, rfl, rfl, HA, HK1, HO_0, HK, HB⟩ := hrel
  cases gk with
  | zero => exact absurd HA.out (by simp [laws_markInt64S.l0])
  | succ k1 =>
   have H := HA.out
   clear HA
   simp only [laws_markInt64S.l0] at H
   by_cases c3 : x5_1 < (x0_1.length : Int)
   ·rw [if_pos c3] at H
    have c3b0 : decide (x5_1 < (x0_1.length : Int)) = true := decide_eq_true c3
    clear c3
    by_cases c4 : 0 ≤ x5_1
    ·rw [if_pos c4] at H
     have c4b0 : decide (0 ≤ x5_1) = true := decide_eq_true c4
     clear c4
     obtain ⟨y457, hy457⟩ : ∃ y_ : List Int, y_ = (x0_1.set (x5_1 : Int).toNat x1_1) := ⟨_, rfl⟩
     replace H : (laws_markInt64S.l0 k1 y457 (wrap64 (x1_1 + 1)) (wrap64 (x5_1 + 1))) = some (r1, r2) := by first | (rw [hy457]; with_reducible exact H) | (have H2_ := (Option.bind_some _ _).symm.trans H; rw [hy457]; with_reducible exact H2_) | (have H2_ := (Option.bind_some _ _).symm.trans H; with_reducible exact H2_) | with_reducible exact H | (rw [hy457]; exact H) | exact H
     have Ny457 := Aside0.mk hy457
     clear hy457
     have H' := Aside0.mk H
     clear H
     obtain ⟨Ao6, co6, eo6⟩ := Kd.R_slice HO_0.out
     subst eo6
     have p5 : 0 ≤ (x5_1 : Int) := of_decide_eq_true (by first | (with_reducible assumption) | assumption)
     have q5 : (x5_1 : Int) < ((x0_1.length : Int) : Int) := of_decide_eq_true (by first | (with_reducible assumption) | assumption)
     obtain ⟨go5, co5, eo5, gb5, gl5, cl5, HG5⟩ := Kd.R_form HO_0.out (by omega)
     (first | cases eo5 | (injection eo5 with ea_ en_ ec_; (first | subst ea_ | (injection ea_ with ea_; subst ea_)); subst ec_; clear en_))
     have GB5 := Aside0.mk gb5
     have GG5 := Aside0.mk HG5
     clear gb5 gl5 HG5
     have HMgo5 := Aside0.mk (show (P0_ go5 ∨ w.heap.size ≤ go5) from (HO_0.out.1 _ rfl))
     obtain ⟨hx5_0, hf5_0⟩ := Kd.R_celln 0 HO_0.out (x5_1 : Int) p5 q5
     replace p5 := eq_true p5
     replace q5 := eq_true q5
     have HP7 := Kd.R_putg HO_0.out (x5_1 : Int) x1_1
     go_wp2_with (first | ((with_reducible refine gate_store (t := 2) (p := 15) rfl ?_); refine store_event (t := 2) (p := 15) (v := ?vo_w8) (w1 := (wr.setCell ⟨go5, (x5_1 : Int).toNat, none⟩ (.int .i64 x1_1))) ?hg ?ho ?hn ?hr ?_; (case ho => rfl); (case hg => rfl); (case hn => rfl); (case hr => first | (go_simp; done) | (go_simp; rfl)); intro w8 hw; have hg : wr.grownBy w8 (some go5) := (by rw [hw]; exact HP7.2); have hp_ : Kd.R (Kd.int .i64) 2 w8 w0.heap.size (fun k_ => (P0_ k_ ∨ w.heap.size ≤ k_)) (.slice (some ⟨go5, 0, none⟩) x0_1.length co6) y457 := (by rw [hw, Ny457.out]; exact HP7.1); clear HP7; have n0_ := Aside0.mk (hp_); have n1_ := Aside0.mk ((by rw [hw]; exact below_set (HB.out) GB5.out : Below w0.heap.size w0 w8)); have n2_ := Aside0.mk (Kept.of_grown (S := (fun k_ => P0_ k_)) hg (by repeat (first | (with_reducible first | exact HK.out | apply Kept.alloc | apply Kept.drewN | apply Kept.drew) | exact HK.out)) (fun k_ e_ => (HO_0.out.1 k_ e_))); clear HO_0; clear HB; clear HK; have HO_0 := n0_; have HB := n1_; have HK := n2_; clear n0_ n1_ n2_; clear hg hw hp_))
     go_roundg k1
     case measure => have := HK1.out; omega
     case rel => exact ⟨(y457), (wrap64 (x1_1 + 1)), (wrap64 (x5_1 + 1)), (by first | rfl | (simp; done) | (simp [*]; done)), (by first | rfl | (simp; done) | (simp [*]; done)), H', ⟨by have := HK1.out; omega⟩, ⟨by (with_reducible repeat (first | apply Kd.R_alloc | apply Kd.R_drewN | apply Kd.R_drew)); exact HO_0.out⟩, ⟨by repeat (first | (with_reducible first | exact HK.out | apply Kept.alloc | apply Kept.drewN | apply Kept.drew) | exact HK.out)⟩, ⟨by repeat (first | (with_reducible first | exact HB.out | apply below_alloc | apply pw_below_drewN | apply below_drew1) | exact HB.out)⟩⟩
    ·rw [if_neg c4] at H
     exact absurd H (by simp)
   ·rw [if_neg c3] at H
    have c3b0 : decide (x5_1 < (x0_1.length : Int)) = false := decide_eq_false c3
    clear c3
    simp only [Option.some.injEq, Prod.mk.injEq] at H
    obtain ⟨rfl, rfl⟩ := H
    obtain ⟨Ao9, co9, eo9⟩ := Kd.R_slice HO_0.out
    subst eo9
    go_wp2
    go_ret
    exact ⟨by first | rfl | (simp [errW_none, errW_some] <;> rfl) | (simp [*, errW_none, errW_some] <;> rfl), by (with_reducible repeat (first | apply Kd.R_alloc | apply Kd.R_drewN | apply Kd.R_drew)); exact HO_0.out, by repeat (first | (with_reducible first | exact HB.out | apply below_alloc | apply pw_below_drewN | apply below_drew1) | exact HB.out), by repeat (first | (with_reducible first | exact HK.out | apply Kept.alloc | apply Kept.drewN | apply Kept.drew) | exact HK.out)⟩
end Go.Proofs.YtbkcllfgolmloaaDoor.X

-- Written by a program of this claim's author, out of the translation.
namespace Go.Proofs.YtbkcllfgolmloaaDoor.X
open Go.RowKit Go.Proofs.YtbkcllfgolmloaaDoorW.PrintWords Go.Proofs.YtbkcllfgolmloaaDoorW.PrintLast Go.Proofs.YtbkcllfgolmloaaDoorW.PrintMore
attribute [local go_sem] max2_int min2_int max_two min_two max_three min_three max_four min_four   -- for this text's walks alone
set_option linter.unusedVariables false
set_option linter.unusedSimpArgs false
-- OWN 0,0
def laws_markInt64SS.l0 : Nat → List (List Int) → Int → Int → Option (Int × List (List Int))
 | 0, _, _, _ => none
 | k + 1, x0, x1, x5 => if x5 < (x0.length : Int) then (if 0 ≤ x5 then ((laws_markInt64S.f k (x0.getD x5.toNat []) x1).bind fun bt => (laws_markInt64SS.l0 k (x0.set x5.toNat bt.2) bt.1 (wrap64 (x5 + 1)))) else (none)) else (some (x1, x0))
def laws_markInt64SS.f (k : Nat) (l0 : List (List Int)) (a1 : Int) : Option (Int × List (List Int)) := laws_markInt64SS.l0 k l0 a1 0
set_option maxHeartbeats 8000000 in
set_option maxRecDepth 100000 in
theorem laws_markInt64SS.calls (k : Nat) (P0_ : Nat → Prop) (u9000_ : Value) (l0 : List (List Int)) (a1 : Int) (r1 : Int) (r2 : List (List Int)) (w0 w : World) (hB : Below w0.heap.size w0 w) (ho0 : Kd.S (Kd.slice 2 (Kd.int .i64)) 55 w w0.heap.size P0_ u9000_ l0) (h : laws_markInt64SS.f k l0 a1 = some (r1, r2)) :
  Calls Tryd.prog 71 #[u9000_, .int .i64 a1] w fun e w' => e = .returned (.int .i64 r1) ∧ Kd.S (Kd.slice 2 (Kd.int .i64)) 55 w' w0.heap.size (fun k_ => (P0_ k_ ∨ w.heap.size ≤ k_)) u9000_ r2 ∧ Below w0.heap.size w0 w' ∧ Kept w w' (fun k_ => P0_ k_) := by
 have HO := Aside0.mk (show Kd.S (Kd.slice 2 (Kd.int .i64)) 55 w w0.heap.size (fun k_ => (P0_ k_ ∨ w.heap.size ≤ k_)) u9000_ l0 from Kd.S_mono ho0 (fun k_ hk => .inl hk))
 have HB := Aside0.mk hB
 have HK := Aside0.mk (Kept.refl w (fun k_ => P0_ k_))
 have H' := Aside0.mk (show laws_markInt64SS.l0 k l0 a1 0 = some (r1, r2) from h)
 clear h hB ho0
 go_enter Tryd.func71, Tryd.ntmps71
 go_wp2
 go_loopg [1, 5] k (fun kq v1 v5 w' => ∃ (xs : List (List Int)) (x1 x5 : Int), v1 = .int .i64 x1 ∧ v5 = .int .i64 x5 ∧ Aside0 (laws_markInt64SS.l0 kq xs x1 x5 = some (r1, r2)) ∧ Aside0 (Kd.S (Kd.slice 2 (Kd.int .i64)) 55 w' w0.heap.size (fun k_ => (P0_ k_ ∨ w.heap.size ≤ k_)) u9000_ xs) ∧ Aside0 (Below w0.heap.size w0 w') ∧ Aside0 (Kept w w' (fun k_ => P0_ k_)))
 case atStart => exact ⟨l0, a1, 0, rfl, rfl, H', HO, HB, HK⟩
 case round =>
  clear H' HO HB HK
  obtain ⟨xs, x1, x5, rfl, rfl, HA, HO, HB, HK⟩ := hrel
  cases gk with
  | zero => exact absurd HA.out (by simp [laws_markInt64SS.l0])
  | succ k1 =>
   have H := HA.out
   clear HA
   simp only [laws_markInt64SS.l0] at H
   by_cases c4 : x5 < (xs.length : Int)
   ·rw [if_pos c4] at H
    have c4b0 : decide (x5 < (xs.length : Int)) = true := decide_eq_true c4
    by_cases c5 : 0 ≤ x5
    ·rw [if_pos c5] at H
     obtain ⟨⟨t1, t2⟩, A70, H⟩ := Option.bind_eq_some_iff.mp H
     replace H : laws_markInt64SS.l0 k1 (xs.set x5.toNat t2) t1 (wrap64 (x5 + 1)) = some (r1, r2) := H
     have H' := Aside0.mk H
     have A7 := Aside0.mk A70
     clear A70 H
     obtain ⟨g, cap, hu, _⟩ := Kd.S_form HO.out (by omega)
     subst hu
     obtain ⟨oki, c, hcl, hM, hcc, hoki, hH⟩ := Kd.S_lend HO.out [] x5 c5 c4
     obtain ⟨vi, rfl, hR⟩ := hM
     obtain ⟨Ai, ci, hvi⟩ := Kd.R_slice hR
     subst hvi
     have hx := hcc 0 _ rfl
     simp only [show (Kd.slice 2 (Kd.int .i64)).sz = 1 from rfl, Nat.mul_one, Nat.add_zero] at hx
     generalize xs.getD x5.toNat [] = row at hx hR hH A7
     have HR := Aside0.mk hR
     have HH := Aside0.mk hH
     have HI := Aside0.mk hoki
     have p0 := eq_true c5
     have q0 := eq_true c4
     clear hcl hcc hoki hH hR c4 c5
     go_wp2_with (first | (go_at_call 120; (with_reducible refine (laws_markInt64S.calls k1 oki _ row x1 t1 t2 w0 _ ?s1 ?s2 A7.out).mono ?_); (case s1 => exact HB.out); (case s2 => exact HR.out); rintro e w5 ⟨rfl, ho, hb, hk⟩; have HO5 := Aside0.mk (Kd.H_back (x' := t2) (okp := fun k_ => oki k_ ∨ wr.heap.size ≤ k_) (Kd.H_kept (Kd.H_widen HH.out) hk (fun _ _ h2 h3 => h2 (Or.inl h3))) ⟨_, rfl, ho⟩ (fun k_ hk_ => hk_.elim Or.inl (fun h_ => Or.inr ⟨Or.inr (Nat.le_trans HK.out.1 h_), h_⟩))); have HB5 := Aside0.mk hb; have HK5 := Aside0.mk (HK.out.then_ hk (fun k_ hk_ => (HI.out k_ hk_).1)); clear HO HB HK HR HH HI ho hb hk))
     go_roundg k1
     case measure => omega
     case rel => exact ⟨_, t1, wrap64 (x5 + 1), rfl, rfl, H', by simpa using HO5, HB5, HK5⟩
    ·rw [if_neg c5] at H
     cases H
   ·rw [if_neg c4] at H
    have c4b0 : decide (x5 < (xs.length : Int)) = false := decide_eq_false c4
    simp only [Option.some.injEq, Prod.mk.injEq] at H
    obtain ⟨rfl, rfl⟩ := H
    obtain ⟨Au, cu, hu⟩ := Kd.S_slice HO.out
    subst hu
    go_wp2
    go_ret
    exact ⟨rfl, HO.out, HB.out, HK.out⟩
end Go.Proofs.YtbkcllfgolmloaaDoor.X

-- Written by a program of this claim's author, out of the translation.
namespace Go.Proofs.YtbkcllfgolmloaaDoor.X
open Go.RowKit Go.Proofs.YtbkcllfgolmloaaDoorW.PrintWords Go.Proofs.YtbkcllfgolmloaaDoorW.PrintLast Go.Proofs.YtbkcllfgolmloaaDoorW.PrintMore
attribute [local go_sem] max2_int min2_int max_two min_two max_three min_three max_four min_four   -- for this text's walks alone
set_option linter.unusedVariables false
set_option linter.unusedSimpArgs false
def laws_markBoolS.l0 : Nat → List Bool → Int → Int → Option (Int × List Bool)
 | 0, _, _, _ => none
 | k + 1, x0, x1, x5 => if x5 < (x0.length : Int) then (if 0 ≤ x5 then (laws_markBoolS.l0 k (x0.set (x5 : Int).toNat ((Int.tmod x1 3) == 0)) (wrap64 (x1 + 1)) (wrap64 (x5 + 1))) else (none)) else (some (x1, x0))
def laws_markBoolS.f (k : Nat) (l0 : List Bool) (a1 : Int) : Option (Int × List Bool) := laws_markBoolS.l0 k l0 a1 0
set_option maxHeartbeats 8000000 in
set_option maxRecDepth 100000 in
theorem laws_markBoolS.calls (k : Nat) (P0_ : Nat → Prop) (u9000_ : Value) (l0 : List Bool) (a1 : Int) (r1 : Int) (r2 : List Bool) (w0 w : World) (hB : Below w0.heap.size w0 w) (ho0 : Kd.R Kd.bool 4 w w0.heap.size P0_ u9000_ l0) (h : laws_markBoolS.f k l0 a1 = some (r1, r2)) :
  Calls Tryd.prog 70 #[u9000_, .int .i64 a1] w fun e w' => e = .returned (.int .i64 r1) ∧ Kd.R Kd.bool 4 w' w0.heap.size (fun k_ => (P0_ k_ ∨ w.heap.size ≤ k_)) u9000_ r2 ∧ Below w0.heap.size w0 w' ∧ Kept w w' (fun k_ => P0_ k_) := by
 have HO0 := Aside0.mk (show Kd.R Kd.bool 4 w w0.heap.size (fun k_ => (P0_ k_ ∨ w.heap.size ≤ k_)) u9000_ l0 from Kd.R_mono ho0 (fun k_ hk => (.inl hk)))
 have HK := Aside0.mk (Kept.refl w (fun k_ => P0_ k_))
 have HW0 := Aside0.mk hB.size
 have HB := Aside0.mk hB
 clear hB
 have H : (laws_markBoolS.l0 k l0 a1 0) = some (r1, r2) := h
 clear h
 have H' := Aside0.mk H
 clear H
 go_enter Tryd.func70, Tryd.ntmps70
 go_wp2
 go_loopg [1, 5] k (fun kq v1 v5 w' => ∃ (x0_1 : List Bool) (x1_1 : Int) (x5_1 : Int), v1 = .int .i64 x1_1 ∧ v5 = .int .i64 x5_1 ∧ Aside0 (laws_markBoolS.l0 kq x0_1 x1_1 x5_1 = some (r1, r2)) ∧ Aside0 (kq ≤ k) ∧ Aside0 (Kd.R Kd.bool 4 w' w0.heap.size (fun k_ => (P0_ k_ ∨ w.heap.size ≤ k_)) u9000_ x0_1) ∧ Aside0 (Kept w w' (fun k_ => P0_ k_)) ∧ Aside0 (Below w0.heap.size w0 w'))
 case atStart => exact ⟨(l0), (a1), (0), (by first | rfl | (simp; done) | (simp [*]; done)), (by first | rfl | (simp; done) | (simp [*]; done)), H', ⟨Nat.le_refl _⟩, ⟨by (with_reducible repeat (first | apply Kd.R_alloc | apply Kd.R_drewN | apply Kd.R_drew)); exact HO0.out⟩, ⟨by repeat (first | (with_reducible first | exact HK.out | apply Kept.alloc | apply Kept.drewN | apply Kept.drew) | exact HK.out)⟩, ⟨by repeat (first | (with_reducible first | exact HB.out | apply below_alloc | apply pw_below_drewN | apply below_drew1) | exact HB.out)⟩⟩
 case round =>
  clear H'
  try clear p2
  obtain ⟨x0_1, x1_1, x5_1, rfl, rfl, HA, HK1, HO_0, HK, HB⟩ := hrel
  cases gk with
  | zero => exact absurd HA.out (by simp [laws_markBoolS.l0])
  | succ k1 =>
   have H := HA.out
   clear HA
   simp only [laws_markBoolS.l0] at H
   by_cases c3 : x5_1 < (x0_1.length : Int)
   ·rw [if_pos c3] at H
    have c3b0 : decide (x5_1 < (x0_1.length : Int)) = true := decide_eq_true c3
    clear c3
    by_cases c4 : 0 ≤ x5_1
    ·rw [if_pos c4] at H
     have c4b0 : decide (0 ≤ x5_1) = true := decide_eq_true c4
     clear c4
     obtain ⟨y456, hy456⟩ : ∃ y_ : List Bool, y_ = (x0_1.set (x5_1 : Int).toNat ((Int.tmod x1_1 3) == 0)) := ⟨_, rfl⟩
     replace H : (laws_markBoolS.l0 k1 y456 (wrap64 (x1_1 + 1)) (wrap64 (x5_1 + 1))) = some (r1, r2) := by first | (rw [hy456]; with_reducible exact H) | (have H2_ := (Option.bind_some _ _).symm.trans H; rw [hy456]; with_reducible exact H2_) | (have H2_ := (Option.bind_some _ _).symm.trans H; with_reducible exact H2_) | with_reducible exact H | (rw [hy456]; exact H) | exact H
     have Ny456 := Aside0.mk hy456
     clear hy456
     have H' := Aside0.mk H
     clear H
     obtain ⟨Ao6, co6, eo6⟩ := Kd.R_slice HO_0.out
     subst eo6
     have p5 : 0 ≤ (x5_1 : Int) := of_decide_eq_true (by first | (with_reducible assumption) | assumption)
     have q5 : (x5_1 : Int) < ((x0_1.length : Int) : Int) := of_decide_eq_true (by first | (with_reducible assumption) | assumption)
     obtain ⟨go5, co5, eo5, gb5, gl5, cl5, HG5⟩ := Kd.R_form HO_0.out (by omega)
     (first | cases eo5 | (injection eo5 with ea_ en_ ec_; (first | subst ea_ | (injection ea_ with ea_; subst ea_)); subst ec_; clear en_))
     have GB5 := Aside0.mk gb5
     have GG5 := Aside0.mk HG5
     clear gb5 gl5 HG5
     have HMgo5 := Aside0.mk (show (P0_ go5 ∨ w.heap.size ≤ go5) from (HO_0.out.1 _ rfl))
     obtain ⟨hx5_0, hf5_0⟩ := Kd.R_celln false HO_0.out (x5_1 : Int) p5 q5
     replace p5 := eq_true p5
     replace q5 := eq_true q5
     have HP7 := Kd.R_putg HO_0.out (x5_1 : Int) ((Int.tmod x1_1 3) == 0)
     go_wp2_with (first | ((with_reducible refine gate_store (t := 4) (p := 17) rfl ?_); refine store_event (t := 4) (p := 17) (v := ?vo_w8) (w1 := (wr.setCell ⟨go5, (x5_1 : Int).toNat, none⟩ (.bool ((Int.tmod x1_1 3) == 0)))) ?hg ?ho ?hn ?hr ?_; (case ho => rfl); (case hg => rfl); (case hn => rfl); (case hr => first | (go_simp; done) | (go_simp; rfl)); intro w8 hw; have hg : wr.grownBy w8 (some go5) := (by rw [hw]; exact HP7.2); have hp_ : Kd.R Kd.bool 4 w8 w0.heap.size (fun k_ => (P0_ k_ ∨ w.heap.size ≤ k_)) (.slice (some ⟨go5, 0, none⟩) x0_1.length co6) y456 := (by rw [hw, Ny456.out]; exact HP7.1); clear HP7; have n0_ := Aside0.mk (hp_); have n1_ := Aside0.mk ((by rw [hw]; exact below_set (HB.out) GB5.out : Below w0.heap.size w0 w8)); have n2_ := Aside0.mk (Kept.of_grown (S := (fun k_ => P0_ k_)) hg (by repeat (first | (with_reducible first | exact HK.out | apply Kept.alloc | apply Kept.drewN | apply Kept.drew) | exact HK.out)) (fun k_ e_ => (HO_0.out.1 k_ e_))); clear HO_0; clear HB; clear HK; have HO_0 := n0_; have HB := n1_; have HK := n2_; clear n0_ n1_ n2_; clear hg hw hp_))
     go_roundg k1
     case measure => have := HK1.out; omega
     case rel => exact ⟨(y456), (wrap64 (x1_1 + 1)), (wrap64 (x5_1 + 1)), (by first | rfl | (simp; done) | (simp [*]; done)), (by first | rfl | (simp; done) | (simp [*]; done)), H', ⟨by have := HK1.out; omega⟩, ⟨by (with_reducible repeat (first | apply Kd.R_alloc | apply Kd.R_drewN | apply Kd.R_drew)); exact HO_0.out⟩, ⟨by repeat (first | (with_reducible first | exact HK.out | apply Kept.alloc | apply Kept.drewN | apply Kept.drew) | exact HK.out)⟩, ⟨by repeat (first | (with_reducible first | exact HB.out | apply below_alloc | apply pw_below_drewN | apply below_drew1) | exact HB.out)⟩⟩
    ·rw [if_neg c4] at H
     exact absurd H (by simp)
   ·rw [if_neg c3] at H
    have c3b0 : decide (x5_1 < (x0_1.length : Int)) = false := decide_eq_false c3
    clear c3
    simp only [Option.some.injEq, Prod.mk.injEq] at H
    obtain ⟨rfl, rfl⟩ := H
    obtain ⟨Ao9, co9, eo9⟩ := Kd.R_slice HO_0.out
    subst eo9
    go_wp2
    go_ret
    exact ⟨by first | rfl | (simp [errW_none, errW_some] <;> rfl) | (simp [*, errW_none, errW_some] <;> rfl), by (with_reducible repeat (first | apply Kd.R_alloc | apply Kd.R_drewN | apply Kd.R_drew)); exact HO_0.out, by repeat (first | (with_reducible first | exact HB.out | apply below_alloc | apply pw_below_drewN | apply below_drew1) | exact HB.out), by repeat (first | (with_reducible first | exact HK.out | apply Kept.alloc | apply Kept.drewN | apply Kept.drew) | exact HK.out)⟩
end Go.Proofs.YtbkcllfgolmloaaDoor.X

namespace Go.Proofs.YtbkcllfgolmloaaDoor.X
open Go Go.RowKit Go.Proofs.YtbkcllfgolmloaaDoorW.PrintWords Go.Proofs.YtbkcllfgolmloaaDoorW.PrintLast Go.Proofs.YtbkcllfgolmloaaDoorW.PrintMore
set_option linter.unusedVariables false
set_option linter.unusedSimpArgs false
section
variable {P : Program} {ops : Array Oper} {rest : List Oper} {o : Oper} {a : Act} {w : World} {Q : Exit → Act → World → Prop}
theorem runs_val {x : Operand} {f : FuncId} {fn : Func} {caps : Array Value} {bs : Array Operand} {ts : Array TypeId} (hf : P.funcs[f]? = some fn) (hname : (fn.name == "runtime.NumGoroutine") = false) (hb : fn.body.isSome = true) (args : Array Value)
  (hop : o.op = .call { callee := .value x, args := bs, argTypes := ts }) (hx : a.eval x = .func (.func f) #[] caps) (hargs : bs.map a.eval = args) : (execOp a.eval o).run P w = .ok (.enter f (args ++ caps)) w := by
 have he := enters_ hf hname hb (args ++ caps) w
 unfold execOp
 simp [hop, resolve, Deferred.ofValue, invoke, hx, hargs, he]
end
/-- A function value that answers bs F does, wherever what was there when the call began still is. -/
structure CloOK {α β : Type} (P : Program) (w : World) (f : FuncId) (caps : Array Value) (arg : α → Array Value) (F : α → Option β) (enc : β → Value) : Prop where
 fn : ∃ fn, P.funcs[f]? = some fn ∧ (fn.name == "runtime.NumGoroutine") = false ∧ fn.body.isSome = true
 run : ∀ x r W, Below w.heap.size w W → F x = some r → Calls P f (arg x ++ caps) W fun e W' => e = .returned (enc r) ∧ Below W.heap.size W W'
section
variable {H : Type} {P : Program} (w : World) {ops : Array Oper} {rest : List Oper} {o : Oper} {a : Act} {Q : Exit → Act → World → Prop}
end
theorem made_at {P : Program} {k : TypeId} {R : Value → Option (DataW Unit × List MemPlace)} (W : World) {n : Nat} (hn : W.heap.size = n) : (W.alloc (.map #[] 0)).ownsMap P k R n 0 (.map []) := hn ▸ World.ownsMap_made _ _ _ _
def retag (own : Nat → Nat) (n t : Nat) : Nat → Nat := fun k => if k < n then own k else t
theorem retag_lt {own : Nat → Nat} {n t k : Nat} (h : k < n) : retag own n t k = own k := by simp [retag, h]
theorem retag_ge {own : Nat → Nat} {n t k : Nat} (h : n ≤ k) : retag own n t k = t := by simp [retag, Nat.not_lt.2 h]
section
variable {α : Type} {d : Kd α} {e base s : Nat} {own : Nat → Nat} {W W1 : World} {v : Value} {xs : List α}
theorem R_tag (h : d.R e W base (fun k => own k = s) v xs) (t : Nat) : d.R e W base (fun k => retag own W.heap.size t k = s) v xs :=
 Kd.R_mono (Kd.R_bound h) (fun k hk => by rw [retag_lt hk.2.2.1]; exact hk.1)
theorem S_tagged (h : Kd.S d e W base (fun k => own k = s) v xs) (t : Nat) : Kd.S d e W base (fun k => retag own W.heap.size t k = s) v xs :=
 Kd.S_mono (Kd.S_bound h) (fun k hk => by rw [retag_lt hk.2.2.1]; exact hk.1)
theorem R_other (h : d.R e W base (fun k => own k = s) v xs) {row : Option Nat} {t : Nat} (hg : W.grownBy W1 row) (hr : ∀ k, row = some k → own k = t) (hst : s ≠ t) : d.R e W1 base (fun k => own k = s) v xs :=
 Kd.R_grown h hg (fun k hk he => hst (hk.symm.trans (hr k he.symm)))
theorem S_other (h : Kd.S d e W base (fun k => own k = s) v xs) {row : Option Nat} {t : Nat} (hg : W.grownBy W1 row) (hr : ∀ k, row = some k → own k = t) (hst : s ≠ t) : Kd.S d e W1 base (fun k => own k = s) v xs :=
 Kd.S_grown h hg (fun k hk he => hst (hk.symm.trans (hr k he.symm)))
theorem R_otherT (h : d.R e W base (fun k => own k = s) v xs) {row : Option Nat} {t : Nat} (hg : W.grownBy W1 row) (hr : ∀ k, row = some k → retag own W.heap.size t k = t) (hst : s ≠ t) : d.R e W1 base (fun k => retag own W.heap.size t k = s) v xs := R_other (R_tag h t) hg hr hst
theorem S_otherT (h : Kd.S d e W base (fun k => own k = s) v xs) {row : Option Nat} {t : Nat} (hg : W.grownBy W1 row) (hr : ∀ k, row = some k → retag own W.heap.size t k = t) (hst : s ≠ t) : Kd.S d e W1 base (fun k => retag own W.heap.size t k = s) v xs := S_other (S_tagged h t) hg hr hst
theorem blk_otherT {g : Nat} {o : Obj} (h : W.heap[g]? = some o ∧ own g = s) {row : Option Nat} {t : Nat} (hg : W.grownBy W1 row) (hr : ∀ k, row = some k → retag own W.heap.size t k = t) (hst : s ≠ t) : W1.heap[g]? = some o ∧ retag own W.heap.size t g = s := by
 have e : retag own W.heap.size t g = s := by rw [retag_lt (blk_lt h.1)]; exact h.2
 exact ⟨blk_grown h.1 hg (fun he => hst (e.symm.trans (hr g he.symm))), e⟩
theorem map_otherT {P : Program} {k : TypeId} {R : Value → Option (DataW Unit × List MemPlace)} {g n : Nat} {D : DataW Unit} (h : W.ownsMap P k R g n D ∧ own g = s) {row : Option Nat} {t : Nat} (hg : W.grownBy W1 row) (hr : ∀ k, row = some k → retag own W.heap.size t k = t) (hst : s ≠ t) : W1.ownsMap P k R g n D ∧ retag own W.heap.size t g = s := by
 have e : retag own W.heap.size t g = s := by rw [retag_lt h.1.lt]; exact h.2
 exact ⟨h.1.kept hg (fun he => hst (e.symm.trans (hr g he.symm))), e⟩
theorem R_rowT (h : d.R e W base (fun k => own k = s) v xs) : ∀ k, v.ownBlock = some k → retag own W.heap.size s k = s := fun k hk => (R_tag h s).1 k hk
theorem S_rowT (h : Kd.S d e W base (fun k => own k = s) v xs) : ∀ k, v.ownBlock = some k → retag own W.heap.size s k = s := fun k hk => (Kd.S_R (S_tagged h s)).1 k hk
theorem map_below {P : Program} {k : TypeId} {R : Value → Option (DataW Unit × List MemPlace)} {g n : Nat} {D : DataW Unit} (h : W.ownsMap P k R g n D) (hb : Below W.heap.size W W1) : W1.ownsMap P k R g n D := h.kept (grown_of_below hb none) (by simp)
end
/-- A literal of one element without rows. -/
theorem R_one {α : Type} {d : Kd α} {e base : Nat} (W : World) (x : α) (cs : List Value) (ok : Nat → Prop) (hx : d.M (W.alloc (.cells cs.toArray e)) base (fun _ => False) x cs) (hl : cs.length = d.sz) (hb : base ≤ W.heap.size) (hok : ok W.heap.size) :
  d.R e (W.alloc (.cells cs.toArray e)) base ok (.slice (some ⟨W.heap.size, 0, none⟩) 1 1) [x] := by
 refine ⟨fun k hk => ?_, cs, ?_, ?_⟩
 ·have : W.heap.size = k := by simpa [Value.ownBlock] using hk
  subst this
  exact hok
 ·have h2 := World.ownsRow_lit (base := base) (e := e) (size := d.sz) W cs.toArray 1 hb (by simp [maxLen]) (by simpa using hl)
  simpa using h2
 ·refine ⟨by simp [hl], fun j p hj => ?_⟩
  have hj0 : j = 0 := by have := (List.getElem?_eq_some_iff.1 hj).1; simp at this; omega
  subst hj0
  have hp : x = p := by simpa using hj
  subst hp
  rw [Nat.zero_mul, List.drop_zero, ← hl, List.take_length]
  exact d.M_mono (fun k hk => hk.elim) hx
def set4 (W : World) (g : Nat) (a b c d : Value) : World := (((W.setCell ⟨g, 0, none⟩ a).setCell ⟨g, 1, none⟩ b).setCell ⟨g, 2, none⟩ c).setCell ⟨g, 3, none⟩ d
theorem set4_other {W : World} {g : Nat} {a b c d : Value} {k : Nat} (h : k ≠ g) : (set4 W g a b c d).heap[k]? = W.heap[k]? := by
 unfold set4
 rw [Below.heap_setCell _ _ _ _ h, Below.heap_setCell _ _ _ _ h, Below.heap_setCell _ _ _ _ h, Below.heap_setCell _ _ _ _ h]
theorem R_set4 {α : Type} {d : Kd α} {e base : Nat} {ok : Nat → Prop} {W : World} {v : Value} {xs : List α} (h : d.R e W base ok v xs) {g t : Nat} {cs : Array Value} (hb : W.heap[g]? = some (.cells cs t (0, 0))) (ht : ∀ q, q ∈ e :: d.E → q ≠ t) (a b c u : Value) : d.R e (set4 W g a b c u) base ok v xs :=
 Kd.R_mono (Kd.R_step (Kd.R_types h hb ht) (fun k hk _ => set4_other hk.2)) (fun _ hk => hk.1)
theorem S_set4 {α : Type} {d : Kd α} {e base : Nat} {ok : Nat → Prop} {W : World} {v : Value} {xs : List α} (h : Kd.S d e W base ok v xs) {g t : Nat} {cs : Array Value} (hb : W.heap[g]? = some (.cells cs t (0, 0))) (ht : ∀ q, q ∈ e :: d.E → q ≠ t) (a b c u : Value) : Kd.S d e (set4 W g a b c u) base ok v xs :=
 Kd.S_mono (Kd.S_step (Kd.S_types h hb ht) (fun k hk _ => set4_other hk.2)) (fun _ hk => hk.1)
theorem below_set4 {w W : World} {g : Nat} (h : Below w.heap.size w W) (hg : w.heap.size ≤ g) (a b c d : Value) : Below w.heap.size w (set4 W g a b c d) := by
 unfold set4
 exact (((h.setCell hg _).setCell hg _).setCell hg _).setCell hg _
def inI64 (t : Int) : Bool := decide (-9223372036854775808 ≤ t) && decide (t ≤ 9223372036854775807)
theorem inI64_wf {t : Int} (h : inI64 t = true) : (Lit.int .i64 t).wf = true := by
 simp only [inI64, Bool.and_eq_true, decide_eq_true_eq] at h
 exact WalkArith.wf_i64 h
section
variable {K : Type} [DecidableEq K]
/-- One state's row: from column c on, m columns; l: the states met so far; lim: how many there may be (0: any number that fits). -/
def growRow (good : K → Bool) (next : Int → Option K) : Nat → Int → List K → List Int → Option (List K × List Int)
 | 0, _, l, row => some (l, row)
 | m + 1, c, l, row => (next c).bind fun t => if good t = true then (if t ∈ l then growRow good next m (c + 1) l (row ++ [(l.idxOf t : Int)]) else if l.length < 1048576 then growRow good next m (c + 1) (l ++ [t]) (row ++ [(l.length : Int)]) else none) else none
def growL (good : K → Bool) (acc : K → Option Bool) (next : K → Int → Option K) (W : Nat) : Nat → List K → List Bool → List (List Int) → Option (List Bool × List (List Int))
 | 0, _, _, _ => none
 | f + 1, l, bs, rs => match l[bs.length]? with
  | none => some (bs, rs)
  | some k => (growRow good (next k) W 0 l []).bind fun p => (acc k).bind fun a => growL good acc next W f p.1 (bs ++ [a]) (rs ++ [p.2])
/-- The map of the numbers, bs a datum. -/
def idsD (lit : K → Lit) (l : List K) : DataW Unit := l.zipIdx.foldl (fun D p => D.put (lit p.1) (.lit (.int .i64 (p.2 : Int)))) (.map [])
omit [DecidableEq K] in
theorem idsD_snoc (lit : K → Lit) (l : List K) (k : K) : idsD lit (l ++ [k]) = (idsD lit l).put (lit k) (.lit (.int .i64 (l.length : Int))) := by
 simp [idsD, List.zipIdx_append, List.foldl_append]
omit [DecidableEq K] in
theorem snoc_ind {P : List K → Prop} (h0 : P []) (h1 : ∀ l k, P l → P (l ++ [k])) : ∀ l, P l := by
 intro l
 suffices h : ∀ n (l : List K), l.length = n → P l from h _ l rfl
 intro n
 induction n with
 | zero =>
  intro l hl
  rw [List.length_eq_zero_iff.1 hl]
  exact h0
 | succ n ih =>
  intro l hl
  rcases List.eq_nil_or_concat l with rfl | ⟨L, b, rfl⟩
  ·simp at hl
  ·simp only [List.concat_eq_append] at hl ⊢
   exact h1 L b (ih L (by simpa using hl))
omit [DecidableEq K] in
theorem idsD_isMap (lit : K → Lit) : ∀ l : List K, Maps.IsMap (idsD lit l) := snoc_ind Maps.isMap_empty (fun l k h => by rw [idsD_snoc]; exact h.put _ _)
theorem idsD_has {lit : K → Lit} (hi : ∀ a b, lit a = lit b → a = b) (hk : ∀ a, WideAt.IsKeyLit (lit a)) (k : K) : ∀ l : List K, Maps.has (idsD lit l) (lit k) = decide (k ∈ l) := by
 apply snoc_ind
 ·simp [idsD, Maps.has]
 ·intro l k' ih
  rw [idsD_snoc]
  by_cases e : k = k'
  ·subst e
   rw [Maps.has_put_same (idsD_isMap lit l) (hk k)]
   simp
  ·rw [Maps.has_put_other (fun h => e (hi _ _ h)), ih]
   simp [e]
theorem idsD_at {lit : K → Lit} (hi : ∀ a b, lit a = lit b → a = b) (hk : ∀ a, WideAt.IsKeyLit (lit a)) (k : K) (z : DataW Unit) : ∀ l : List K, k ∈ l → l.Nodup → (idsD lit l).atKey (lit k) z = .lit (.int .i64 (l.idxOf k : Int)) := by
 apply snoc_ind
 ·intro h; cases h
 ·intro l k' ih hm hn
  rw [idsD_snoc]
  have hn' := List.nodup_append.1 hn
  by_cases e : k = k'
  ·subst e
   rw [Maps.atKey_put_same (idsD_isMap lit l) (hk k)]
   have hni : k ∉ l := fun h => hn'.2.2 k h k (by simp) rfl
   simp [List.idxOf_append, hni]
  ·rw [Maps.atKey_put_other (fun h => e (hi _ _ h))]
   have hm' : k ∈ l := by simpa [e] using hm
   rw [ih hm' hn'.1]
   simp [List.idxOf_append, hm']
end
section
variable {K : Type} [DecidableEq K] {P : Program} (w : World) {ops : Array Oper} {rest : List Oper} {o : Oper} {a : Act} {Q : Exit → Act → World → Prop}
theorem ids_look {lit : K → Lit} (hi : ∀ a b, lit a = lit b → a = b) (hk : ∀ a, WideAt.IsKeyLit (lit a)) {t k e : TypeId} {b n : Nat} {l : List K} (hown : w.ownsMap P k (plainElem P e) b n (idsD lit l)) (KK : Maps.Keyed P k) (ht : P.underlying t = some (.map k e)) (he : P.underlying e = some (.int .i64))
  (hz : (zeroValue e).run P w = .ok (.int .i64 0) w) (hn : l.Nodup) {key : Value} {x : K} (hkey : keyOf P k key = some (lit x)) :
  (Instr.lookup t (.map (some b)) key true).run P w = .ok (.tuple #[.int .i64 (if x ∈ l then (l.idxOf x : Int) else 0), .bool (decide (x ∈ l))]) w := by
 obtain ⟨v, ps, hrun, hv⟩ := hown.look_ok KK ht hz (plainElem_int he (by decide)) hkey
 rw [hrun, idsD_has hi hk]
 obtain ⟨c, rfl, hc, _⟩ := plainElem_int_inv he hv
 by_cases hx : x ∈ l
 ·rw [idsD_at hi hk x _ l hx hn] at hc
  simp only [Prod.mk.injEq, DataW.lit.injEq, Lit.int.injEq, true_and] at hc
  rw [if_pos hx, hc.1]
 ·have h0 : Maps.has (idsD lit l) (lit x) = false := by rw [idsD_has hi hk]; simp [hx]
  rw [Maps.atKey_of_not_has h0] at hc
  simp only [Prod.mk.injEq, DataW.lit.injEq, Lit.int.injEq, true_and] at hc
  rw [if_neg hx, hc.1]
theorem wpList_ids_look {lit : K → Lit} (hg : o.guard = none) (m x : Operand) (t : TypeId) (hop : o.op = Op.lookup t m x true) (hi : ∀ a b, lit a = lit b → a = b) (hk : ∀ a, WideAt.IsKeyLit (lit a)) {k e : TypeId} {b n : Nat} {l : List K} (KK : Maps.Keyed P k) (ht : P.underlying t = some (.map k e)) (he : P.underlying e = some (.int .i64))
  (hz : (zeroValue e).run P w = .ok (.int .i64 0) w) (hm : a.eval m = .map (some b)) (hown : w.ownsMap P k (plainElem P e) b n (idsD lit l)) (hn : l.Nodup) (key : Value) (y : K) (hx : a.eval x = key) (hkey : keyOf P k key = some (lit y)) (c : Int) (bb : Bool) (hc : (if y ∈ l then (l.idxOf y : Int) else 0) = c) (hbb : decide (y ∈ l) = bb)
  (hK : wpList P ops Q rest (a.put o.dst (.tuple #[.int .i64 c, .bool bb])) w) : wpList P ops Q (o :: rest) a w := by
 refine wpList_plain hg fun K' hK' => ?_
 have hrun := ids_look w hi hk hown KK ht he hz hn hkey
 rw [hc, hbb] at hrun
 unfold Oper.wp
 simp [execOp, hop, hm, hx, hrun, Result.andThen]
 exact hK' _ _ hK
omit [DecidableEq K] in
theorem wpList_ids_put {lit : K → Lit} (hg : o.guard = none) (m x v : Operand) (t : TypeId) (hop : o.op = Op.mapUpdate t m x v) {k e : TypeId} {b n : Nat} {l : List K} (KK : Maps.Keyed P k) (ht : P.underlying t = some (.map k e)) (he : P.underlying e = some (.int .i64))
  (hm : a.eval m = .map (some b)) (hown : w.ownsMap P k (plainElem P e) b n (idsD lit l)) (hn : n < maxLen) (key : Value) (y : K) (hx : a.eval x = key) (hkey : keyOf P k key = some (lit y)) (hv : a.eval v = .int .i64 (l.length : Int)) (hl : (l.length : Int) ≤ 9223372036854775807)
  (hK : ∀ w', w'.ownsMap P k (plainElem P e) b (n + 1) (idsD lit (l ++ [y])) → w.grownBy w' (some b) → wpList P ops Q rest (a.put o.dst undef) w') : wpList P ops Q (o :: rest) a w := by
 refine wpList_plain hg fun K' hK' => ?_
 obtain ⟨w', hrun, r1, r2⟩ := hown.update KK ht hn hkey (plainElem_int he (WalkArith.wf_i64 ⟨by omega, hl⟩))
 rw [← idsD_snoc] at r1
 unfold Oper.wp
 simp [execOp, hop, hm, hx, hv, hrun, Result.andThen]
 exact hK' _ _ (hK w' r1 r2)
end
end Go.Proofs.YtbkcllfgolmloaaDoor.X

namespace Go.Proofs.YtbkcllfgolmloaaDoor.X
open Go Go.RowKit Go.Proofs.YtbkcllfgolmloaaDoorW.PrintWords Go.Proofs.YtbkcllfgolmloaaDoorW.PrintLast Go.Proofs.YtbkcllfgolmloaaDoorW.PrintMore
set_option linter.unusedVariables false
set_option linter.unusedSimpArgs false
/-- A part: what is said of some blocks. -/
abbrev Part := (Nat → Prop) → World → Prop
structure POk (P : Part) : Prop where
 mono : ∀ {ok ok' : Nat → Prop} {W : World}, P ok W → (∀ k, ok k → ok' k) → P ok' W
 step : ∀ {ok : Nat → Prop} {W W1 : World}, P ok W → (∀ k, ok k → k < W.heap.size → W1.heap[k]? = W.heap[k]?) → P (fun k => ok k ∧ k < W.heap.size) W1
def rowP {α : Type} (d : Kd α) (e base : Nat) (v : Value) (xs : List α) : Part := fun ok W => d.R e W base ok v xs
def rowsP {α : Type} (d : Kd α) (e base : Nat) (v : Value) (xs : List α) : Part := fun ok W => Kd.S d e W base ok v xs
def blkP (g : Nat) (o : Obj) : Part := fun ok W => W.heap[g]? = some o ∧ ok g
theorem rowP_ok {α : Type} (d : Kd α) (e base : Nat) (v : Value) (xs : List α) : POk (rowP d e base v xs) :=
 ⟨fun h hk => Kd.R_mono h hk, fun h hm => Kd.R_step (Kd.R_mono (Kd.R_bound h) (fun k hk => ⟨hk.1, hk.2.2.1⟩)) (fun k hk hlt => hm k hk.1 hlt)⟩
theorem rowsP_ok {α : Type} (d : Kd α) (e base : Nat) (v : Value) (xs : List α) : POk (rowsP d e base v xs) :=
 ⟨fun h hk => Kd.S_mono h hk, fun h hm => Kd.S_step (Kd.S_mono (Kd.S_bound h) (fun k hk => ⟨hk.1, hk.2.2.1⟩)) (fun k hk hlt => hm k hk.1 hlt)⟩
theorem blkP_ok (g : Nat) (o : Obj) : POk (blkP g o) :=
 ⟨fun h hk => ⟨h.1, hk _ h.2⟩, fun h hm => ⟨(hm g h.2 (blk_lt h.1)).trans h.1, h.2, blk_lt h.1⟩⟩
/-- The parts with their numbers: own tells each block's number. -/
def Sep (own : Nat → Nat) (W : World) : List (Nat × Part) → Prop
 | [] => True
 | p :: ps => (POk p.2 ∧ p.2 (fun k => own k = p.1) W) ∧ Sep own W ps
section
variable {own : Nat → Nat} {W W1 : World} {ps : List (Nat × Part)} {t u i : Nat} {P P' : Part}
theorem Sep.get (h : Sep own W ps) (hi : ps[i]? = some (t, P)) : P (fun k => own k = t) W := by
 induction ps generalizing i with
 | nil => simp at hi
 | cons p ps ih =>
  cases i with
  | zero => simp at hi; subst hi; exact h.1.2
  | succ i => exact ih h.2 (by simpa using hi)
/-- What tag t has may change; there may be new blocks, of tag t. -/
theorem Sep.change (h : Sep own W ps) (hm : ∀ k, own k ≠ t → k < W.heap.size → W1.heap[k]? = W.heap[k]?) (ht : (ps.map Prod.fst).contains t = false) : Sep (retag own W.heap.size t) W1 ps := by
 induction ps with
 | nil => trivial
 | cons p ps ih =>
  simp only [List.map_cons, List.contains_cons, Bool.or_eq_false_iff] at ht
  have hne : p.1 ≠ t := fun e => by rw [e] at ht; simp at ht
  refine ⟨⟨h.1.1, h.1.1.mono (h.1.1.step h.1.2 (fun k hk hlt => hm k (by rw [hk]; exact hne) hlt)) (fun k hk => ?_)⟩, ih h.2 ht.2⟩
  rw [retag_lt hk.2]
  exact hk.1
theorem Sep.below (h : Sep own W ps) (hb : Below W.heap.size W W1) : Sep own W1 ps := by
 induction ps with
 | nil => trivial
 | cons p ps ih => exact ⟨⟨h.1.1, h.1.1.mono (h.1.1.step h.1.2 (fun k _ hlt => hb.block k hlt)) (fun k hk => hk.1)⟩, ih h.2⟩
theorem Sep.fresh (h : Sep own W ps) (hb : Below W.heap.size W W1) (ht : (ps.map Prod.fst).contains t = false) : Sep (retag own W.heap.size t) W1 ps :=
 h.change (fun k _ hlt => hb.block k hlt) ht
theorem Sep.snoc (h : Sep own W ps) (hok : POk P) (hP : P (fun k => own k = t) W) : Sep own W (ps ++ [(t, P)]) := by
 induction ps with
 | nil => exact ⟨⟨hok, hP⟩, trivial⟩
 | cons p ps ih => exact ⟨h.1, ih h.2⟩
/-- A new part, of new blocks. -/
theorem Sep.new (h : Sep own W ps) (hb : Below W.heap.size W W1) (hok : POk P) (hP : P (fun k => W.heap.size ≤ k) W1) (ht : (ps.map Prod.fst).contains t = false) : Sep (retag own W.heap.size t) W1 (ps ++ [(t, P)]) :=
 (h.fresh hb ht).snoc hok (hok.mono hP (fun _ hk => retag_ge hk))
theorem Sep.drop (h : Sep own W ps) (i : Nat) : Sep own W (ps.eraseIdx i) := by
 induction ps generalizing i with
 | nil => trivial
 | cons p ps ih =>
  cases i with
  | zero => exact h.2
  | succ i => exact ⟨h.1, ih h.2 i⟩
theorem Sep.rel (h : Sep own W ps) (f : Nat → Nat) (hf : ∀ p ∈ ps, f p.1 = p.1) : Sep (fun k => f (own k)) W ps := by
 induction ps with
 | nil => trivial
 | cons p ps ih =>
  refine ⟨⟨h.1.1, h.1.1.mono h.1.2 (fun k hk => ?_)⟩, ih h.2 (fun q hq => hf q (by simp [hq]))⟩
  show f (own k) = p.1
  rw [hk, hf p (by simp)]
/-- The numbers of blocks that are not there do not matter. -/
theorem Sep.under {own' : Nat → Nat} (h : Sep own W ps) (he : ∀ k, k < W.heap.size → own k = own' k) : Sep own' W ps := by
 induction ps with
 | nil => trivial
 | cons p ps ih => exact ⟨⟨h.1.1, h.1.1.mono (h.1.1.step h.1.2 (fun _ _ _ => rfl)) (fun k hk => by rw [← he k hk.2]; exact hk.1)⟩, ih h.2⟩
theorem contains_false {l : List Nat} {t : Nat} (h : l.contains t = false) : ∀ x ∈ l, x ≠ t := by
 intro x hx e
 subst e
 simp [hx] at h
/-- Part i is written (blocks of its tag alone, and new ones). -/
theorem Sep.put (h : Sep own W ps) (i : Nat) (hi : ps[i]? = some (t, P)) (hm : ∀ k, own k ≠ t → k < W.heap.size → W1.heap[k]? = W.heap[k]?) (hok : POk P') (hP : P' (fun k => retag own W.heap.size t k = t) W1) (hd : ((ps.eraseIdx i).map Prod.fst).contains t = false) :
  Sep (retag own W.heap.size t) W1 (ps.set i (t, P')) := by
 induction ps generalizing i with
 | nil => simp at hi
 | cons p ps ih =>
  cases i with
  | zero =>
   simp at hi
   subst hi
   exact ⟨⟨hok, hP⟩, h.2.change hm (by simpa using hd)⟩
  | succ i =>
   simp only [List.eraseIdx_cons_succ, List.map_cons, List.contains_cons, Bool.or_eq_false_iff] at hd
   refine ⟨(Sep.change (ps := [p]) ⟨h.1, trivial⟩ hm (by simpa using hd.1)).1, ih h.2 i (by simpa using hi) hd.2⟩
/-- .. and takes in blocks of tag u, which is nobody's any more. -/
theorem Sep.put2 (h : Sep own W ps) (i : Nat) (hi : ps[i]? = some (t, P)) (hm : ∀ k, own k ≠ t → k < W.heap.size → W1.heap[k]? = W.heap[k]?) (hok : POk P') (hP : P' (fun k => retag own W.heap.size t k = t ∨ retag own W.heap.size t k = u) W1) (hd : ((ps.eraseIdx i).map Prod.fst).contains t = false) (hu : (ps.map Prod.fst).contains u = false) :
  Sep (fun k => if retag own W.heap.size t k = u then t else retag own W.heap.size t k) W1 (ps.set i (t, P')) := by
 have htu : t ≠ u := contains_false hu t (List.mem_map.2 ⟨(t, P), List.mem_of_getElem? hi, rfl⟩)
 induction ps generalizing i with
 | nil => simp at hi
 | cons p ps ih =>
  simp only [List.map_cons, List.contains_cons, Bool.or_eq_false_iff] at hu
  have key : ∀ (qs : List (Nat × Part)), Sep own W qs → (qs.map Prod.fst).contains t = false → (qs.map Prod.fst).contains u = false → Sep (fun k => if retag own W.heap.size t k = u then t else retag own W.heap.size t k) W1 qs := by
   intro qs hq h1 h2
   refine (hq.change hm h1).rel (fun x => if x = u then t else x) (fun q hq' => ?_)
   rw [if_neg (contains_false h2 q.1 (List.mem_map_of_mem hq'))]
  cases i with
  | zero =>
   simp at hi
   subst hi
   refine ⟨⟨hok, hok.mono hP (fun k hk => ?_)⟩, key ps h.2 (by simpa using hd) hu.2⟩
   show (if retag own W.heap.size t k = u then t else retag own W.heap.size t k) = t
   rcases hk with hk | hk
   ·rw [hk, if_neg htu]
   ·rw [if_pos hk]
  | succ i =>
   simp only [List.eraseIdx_cons_succ, List.map_cons, List.contains_cons, Bool.or_eq_false_iff] at hd
   exact ⟨(key [p] ⟨h.1, trivial⟩ (by simpa using hd.1) (by simpa using hu.1)).1, ih h.2 i (by simpa using hi) hd.2 hu.2⟩
theorem same_grown {row : Option Nat} (hg : W.grownBy W1 row) (hr : ∀ k, row = some k → own k = t) : ∀ k, own k ≠ t → k < W.heap.size → W1.heap[k]? = W.heap[k]? :=
 fun k hk hlt => hg.block k hlt (fun e => hk (hr k e.symm))
theorem same_set {p : Addr} (hp : own p.block = t) (x : Value) : ∀ k, own k ≠ t → k < W.heap.size → (W.setCell p x).heap[k]? = W.heap[k]? :=
 fun k hk _ => Below.heap_setCell W p x k (fun e => hk (e ▸ hp))
end
section
variable {α : Type} {d : Kd α} {e base : Nat} {v : Value} {xs : List α} {W W1 : World} {own : Nat → Nat} {ps : List (Nat × Part)} {t i : Nat}
/-- An element of a row of numbers is stored. -/
theorem Sep.setInt {base : Nat} {e g n c : Nat} {xs : List Int} (h : Sep own W ps) (i : Nat) (hi : ps[i]? = some (t, rowP (Kd.int .i64) e base (.slice (some ⟨g, 0, none⟩) n c) xs)) (j x : Int) (hd : ((ps.eraseIdx i).map Prod.fst).contains t = false) :
  Sep own (W.setCell ⟨g, j.toNat, none⟩ (.int .i64 x)) (ps.set i (t, rowP (Kd.int .i64) e base (.slice (some ⟨g, 0, none⟩) n c) (xs.set j.toNat x))) := by
 have hR := h.get hi
 obtain ⟨rfl, -, -⟩ := Kd.R_reads' hR
 have hg : own g = t := hR.1 g rfl
 obtain ⟨hR2, -⟩ := Kd.R_put hR j x
 have hR3 : (Kd.int .i64).R e (W.setCell ⟨g, j.toNat, none⟩ (.int .i64 x)) base (fun k => retag own W.heap.size t k = t) (.slice (some ⟨g, 0, none⟩) xs.length c) (xs.set j.toNat x) := by
  have h_ := R_tag (s := t) hR2 t
  rwa [show (W.setCell ⟨g, j.toNat, none⟩ (.int .i64 x)).heap.size = W.heap.size by simp] at h_
 have h2 := h.put (W1 := W.setCell ⟨g, j.toNat, none⟩ (.int .i64 x)) i hi (P' := rowP (Kd.int .i64) e base (.slice (some ⟨g, 0, none⟩) xs.length c) (xs.set j.toNat x)) (same_set (p := ⟨g, j.toNat, none⟩) hg _) (rowP_ok _ _ _ _ _) hR3 hd
 exact h2.under (fun k hlt => by simp at hlt; exact retag_lt hlt)
end
theorem below_of_grown {W W1 : World} (hg : W.grownBy W1 none) : Below W.heap.size W W1 := ⟨hg.os, hg.tape, hg.output, hg.size, fun k hk => hg.block k hk (by simp)⟩
/-- A number stored in a row of numbers, and a cell read. -/
theorem Sep.int {own : Nat → Nat} {W : World} {ps : List (Nat × Part)} {t : Nat} {base e : Nat} {v : Value} {xs : List Int} (h : Sep own W ps) (i : Nat) (hi : ps[i]? = some (t, rowP (Kd.int .i64) e base v xs)) (j : Int) (h0 : 0 ≤ j) (h1 : j < (xs.length : Int)) :
  ∃ g c, v = .slice (some ⟨g, 0, none⟩) xs.length c ∧ W.cell? ⟨g, j.toNat, none⟩ = some (.int .i64 (rd xs j)) ∧ W.frozen? ⟨g, j.toNat, none⟩ = false := by
 have hR := h.get hi
 obtain ⟨g, c, rfl, _⟩ := Kd.R_form hR (by omega)
 obtain ⟨a, b⟩ := Kd.R_cell (0 : Int) hR j h0 h1
 exact ⟨g, c, rfl, a, b⟩
/-- An empty row, not nil. -/
theorem R_empty {α : Type} (d : Kd α) (e base : Nat) (W : World) (ok : Nat → Prop) (hb : base ≤ W.heap.size) (hok : ok W.heap.size) : d.R e (W.alloc (.cells #[] e)) base ok (.slice (some ⟨W.heap.size, 0, none⟩) 0 0) [] := by
 refine ⟨fun k hk => ?_, [], ?_, ?_⟩
 ·have : W.heap.size = k := by simpa [Value.ownBlock] using hk
  subst this
  exact hok
 ·have h2 := World.ownsRow_lit (base := base) (e := e) (size := d.sz) W #[] 0 hb (by simp [maxLen]) (by simp)
  simpa using h2
 ·exact ⟨by simp, fun j p hj => by simp at hj⟩
/-- A row was appended to. -/
theorem Sep.appended {α : Type} {d : Kd α} {e base : Nat} {v v1 : Value} {xs xs1 : List α} {W W1 : World} {own : Nat → Nat} {ps : List (Nat × Part)} {t : Nat} (h : Sep own W ps) (i : Nat) (hi : ps[i]? = some (t, rowP d e base v xs)) (ho : d.R e W1 base (fun k => retag own W.heap.size t k = t) v1 xs1) (hg : W.grownBy W1 v.ownBlock) (hd : ((ps.eraseIdx i).map Prod.fst).contains t = false) :
  Sep (retag own W.heap.size t) W1 (ps.set i (t, rowP d e base v1 xs1)) :=
 h.put i hi (same_grown hg (fun k hk => (h.get hi).1 k hk)) (rowP_ok d e base v1 xs1) ho hd
theorem Sep.rowTag {α : Type} {d : Kd α} {e base : Nat} {v : Value} {xs : List α} {W : World} {own : Nat → Nat} {ps : List (Nat × Part)} {t : Nat} (h : Sep own W ps) (i : Nat) (hi : ps[i]? = some (t, rowP d e base v xs)) : d.R e W base (fun k => retag own W.heap.size t k = t) v xs := R_tag (s := t) (h.get hi) t
/-- A cell of a block is stored. -/
theorem Sep.setBlk {own : Nat → Nat} {W : World} {ps : List (Nat × Part)} {t g T : Nat} {cs cs' : Array Value} (h : Sep own W ps) (i : Nat) (hi : ps[i]? = some (t, blkP g (.cells cs T (0, 0)))) (j : Nat) (v : Value) (hcs : cs.setIfInBounds j v = cs') (hd : ((ps.eraseIdx i).map Prod.fst).contains t = false) :
  Sep own (W.setCell ⟨g, j, none⟩ v) (ps.set i (t, blkP g (.cells cs' T (0, 0)))) := by
 obtain ⟨hb, hg⟩ := h.get hi
 have h2 := h.put (W1 := W.setCell ⟨g, j, none⟩ v) i hi (P' := blkP g (.cells cs' T (0, 0))) (same_set (p := ⟨g, j, none⟩) hg v) (blkP_ok _ _) ⟨by rw [← hcs]; exact blk_set hb j v, (retag_lt (blk_lt hb)).trans hg⟩ hd
 exact h2.under (fun k hlt => by simp at hlt; exact retag_lt hlt)
/-- A row was put behind rows: its blocks (tag u) are the rows' now. -/
theorem Sep.appendedRows {α : Type} {d : Kd α} {e base : Nat} {v v1 : Value} {xs xs1 : List α} {W W1 : World} {own : Nat → Nat} {ps : List (Nat × Part)} {t u : Nat} (h : Sep own W ps) (i : Nat) (hi : ps[i]? = some (t, rowsP d e base v xs)) (ho : Kd.S d e W1 base (fun k => retag own W.heap.size t k = t ∨ retag own W.heap.size t k = u) v1 xs1) (hg : W.grownBy W1 v.ownBlock) (hd : ((ps.eraseIdx i).map Prod.fst).contains t = false) (hu : (ps.map Prod.fst).contains u = false) :
  Sep (fun k => if retag own W.heap.size t k = u then t else retag own W.heap.size t k) W1 (ps.set i (t, rowsP d e base v1 xs1)) :=
 h.put2 i hi (same_grown hg (fun k hk => (Kd.S_R (h.get hi)).1 k hk)) (rowsP_ok d e base v1 xs1) ho hd hu
theorem Sep.rowsTag {α : Type} {d : Kd α} {e base : Nat} {v : Value} {xs : List α} {W : World} {own : Nat → Nat} {ps : List (Nat × Part)} {t u : Nat} (h : Sep own W ps) (i : Nat) (hi : ps[i]? = some (t, rowsP d e base v xs)) (htu : t ≠ u) : Kd.S d e W base (fun k => (retag own W.heap.size t k = t ∨ retag own W.heap.size t k = u) ∧ ¬ retag own W.heap.size t k = u) v xs :=
 Kd.S_mono (S_tagged (s := t) (h.get hi) t) (fun k hk => ⟨Or.inl hk, by rw [hk]; exact htu⟩)
theorem Sep.rowTag2 {α : Type} {d : Kd α} {e base : Nat} {v : Value} {xs : List α} {W : World} {own : Nat → Nat} {ps : List (Nat × Part)} {t : Nat} (h : Sep own W ps) (i : Nat) (hi : ps[i]? = some (t, rowP d e base v xs)) (u : Nat) : d.R e W base (fun k => retag own W.heap.size u k = t) v xs := R_tag (s := t) (h.get hi) u
def rowAt (xs : List (List Int)) (a : Int) : List Int := xs.getD a.toNat []
theorem rows_cell {e e2 base : Nat} {W : World} {ok : Nat → Prop} {v : Value} {xs : List (List Int)} (h : Kd.S (Kd.slice e (Kd.int .i64)) e2 W base ok v xs) (a : Int) (a0 : 0 ≤ a) (a1 : a < (xs.length : Int)) :
  ∃ g c v2, v = .slice (some ⟨g, 0, none⟩) xs.length c ∧ W.cell? ⟨g, a.toNat, none⟩ = some v2 ∧ (∃ A2 c2, v2 = .slice A2 (rowAt xs a).length c2) ∧
   ∀ b : Int, 0 ≤ b → b < ((rowAt xs a).length : Int) → ∃ g2 c2, v2 = .slice (some ⟨g2, 0, none⟩) (rowAt xs a).length c2 ∧ W.cell? ⟨g2, b.toNat, none⟩ = some (.int .i64 (rd (rowAt xs a) b)) ∧ W.frozen? ⟨g2, b.toNat, none⟩ = false ∧ ok g2 ∧ base ≤ g2 ∧
    ∀ x : Int, Kd.S (Kd.slice e (Kd.int .i64)) e2 (W.setCell ⟨g2, b.toNat, none⟩ (.int .i64 x)) base ok v (xs.set a.toNat ((rowAt xs a).set b.toNat x)) := by
 obtain ⟨g, cap, hu, _⟩ := Kd.S_form h (by omega)
 subst hu
 obtain ⟨oki, c, hcl, hM, hcc, hoki, hH⟩ := Kd.S_lend h [] a a0 a1
 obtain ⟨vi, rfl, hR⟩ := hM
 have hx := hcc 0 _ rfl
 simp only [show (Kd.slice e (Kd.int .i64)).sz = 1 from rfl, Nat.mul_one, Nat.add_zero] at hx
 obtain ⟨Ai, ci, hvi⟩ := Kd.R_slice hR
 refine ⟨g, cap, vi, rfl, hx, ⟨Ai, ci, hvi⟩, fun b b0 b1 => ?_⟩
 obtain ⟨g2, c2, hv2, hb2, _⟩ := Kd.R_form hR (by show 0 < (rowAt xs a).length; omega)
 subst hv2
 obtain ⟨h1, h2⟩ := Kd.R_cell (0 : Int) hR b b0 b1
 have hg2 := hR.1 g2 rfl
 refine ⟨g2, c2, rfl, h1, h2, (hoki g2 hg2).1, hb2, fun x => ?_⟩
 obtain ⟨hR2, -⟩ := Kd.R_put hR b x
 have hR3 : (Kd.int .i64).R e (W.setCell ⟨g2, b.toNat, none⟩ (.int .i64 x)) base oki (.slice (some ⟨g2, 0, none⟩) ((rowAt xs a).set b.toNat x).length c2) ((rowAt xs a).set b.toNat x) := by
  rw [List.length_set]
  exact hR2
 refine Kd.H_back (x' := (rowAt xs a).set b.toNat x) (okp := oki) (Kd.H_step hH (fun k _ hn _ => Below.heap_setCell W _ _ k (fun e_ => hn (by rw [show k = g2 from e_]; exact hg2)))) ⟨_, ?_, hR3⟩ (fun k hk => hk)
 rw [List.length_set]
 rfl
theorem Sep.setRows {own : Nat → Nat} {W : World} {ps : List (Nat × Part)} {t base e e2 : Nat} {v : Value} {xs xs' : List (List Int)} (h : Sep own W ps) (i : Nat) (hi : ps[i]? = some (t, rowsP (Kd.slice e (Kd.int .i64)) e2 base v xs)) {p : Addr} {u : Value} (hp : own p.block = t) (hS : Kd.S (Kd.slice e (Kd.int .i64)) e2 (W.setCell p u) base (fun k => own k = t) v xs') (hd : ((ps.eraseIdx i).map Prod.fst).contains t = false) :
  Sep own (W.setCell p u) (ps.set i (t, rowsP (Kd.slice e (Kd.int .i64)) e2 base v xs')) := by
 have h3 : Kd.S (Kd.slice e (Kd.int .i64)) e2 (W.setCell p u) base (fun k => retag own W.heap.size t k = t) v xs' := by
  have h_ := S_tagged (s := t) hS t
  rwa [show (W.setCell p u).heap.size = W.heap.size by simp] at h_
 have h2 := h.put (W1 := W.setCell p u) i hi (P' := rowsP (Kd.slice e (Kd.int .i64)) e2 base v xs') (same_set hp u) (rowsP_ok _ _ _ _ _) h3 hd
 exact h2.under (fun k hlt => by simp at hlt; exact retag_lt hlt)
end Go.Proofs.YtbkcllfgolmloaaDoor.X

namespace Go.Proofs.YtbkcllfgolmloaaDoor.X
open Go Go.RowKit Go.Proofs.YtbkcllfgolmloaaDoorW.PrintWords Go.Proofs.YtbkcllfgolmloaaDoorW.PrintLast Go.Proofs.YtbkcllfgolmloaaDoorW.PrintMore
set_option linter.unusedVariables false
set_option linter.unusedSimpArgs false
theorem told_size (w : World) (o : Obj) : (w.alloc o).heap.size = w.heap.size + 1 := by show (w.heap.push o).size = _; exact Array.size_push ..
end Go.Proofs.YtbkcllfgolmloaaDoor.X

namespace Go.Proofs.YtbkcllfgolmloaaDoor.X
open Go Go.RowKit Go.Proofs.YtbkcllfgolmloaaDoorW.PrintWords Go.Proofs.YtbkcllfgolmloaaDoorW.PrintLast Go.Proofs.YtbkcllfgolmloaaDoorW.PrintMore
set_option linter.unusedVariables false
set_option linter.unusedSimpArgs false
set_option maxHeartbeats 8000000 in
set_option maxRecDepth 100000 in
theorem markRelation_calls (k : Nat) (t s : Int) (Pa Pb : Nat → Prop) (va vb : Value) (l2 : List Bool) (l3 : List (List Int)) (a1 r1 r : Int) (r2 : List Bool) (r3 : List (List Int)) (w0 w : World) (hB : Below w0.heap.size w0 w)
  (ha : Kd.R Kd.bool 4 w w0.heap.size Pa va l2) (hb : Kd.S (Kd.slice 2 (Kd.int .i64)) 55 w w0.heap.size Pb vb l3) (hd : ∀ k, Pa k → ¬ Pb k)
  (h1 : laws_markBoolS.f k l2 a1 = some (r1, r2)) (h2 : laws_markInt64SS.f k l3 r1 = some (r, r3)) :
  Calls Tryd.prog 28 #[.agg #[.int .i64 t, .int .i64 s, va, vb], .int .i64 a1] w fun e w' =>
   e = .returned (.int .i64 r) ∧ Kd.R Kd.bool 4 w' w0.heap.size (fun k => Pa k ∨ w.heap.size ≤ k) va r2 ∧ Kd.S (Kd.slice 2 (Kd.int .i64)) 55 w' w0.heap.size (fun k => Pb k ∨ w.heap.size ≤ k) vb r3 ∧ Below w0.heap.size w0 w' ∧ Kept w w' (fun k => Pa k ∨ Pb k) := by
 obtain ⟨A2, c2, e2⟩ := Kd.R_slice ha
 subst e2
 obtain ⟨A3, c3, e3⟩ := Kd.S_slice hb
 subst e3
 have hz : ∀ o : Obj, (w.alloc o).heap.size = w.heap.size + 1 := fun o => told_size w o
 have ha' := Aside0.mk (Kd.R_mono (Kd.R_bound ha) (ok' := fun k => Pa k ∧ k < w.heap.size) (fun k hk => ⟨hk.1, hk.2.2.1⟩))
 have hb' := Aside0.mk (Kd.S_mono (Kd.S_bound hb) (ok' := fun k => Pb k ∧ k < w.heap.size) (fun k hk => ⟨hk.1, hk.2.2.1⟩))
 have HB := Aside0.mk hB
 have H1 := Aside0.mk h1
 have H2 := Aside0.mk h2
 clear ha hb hB h1 h2
 go_enter Tryd.func28, Tryd.ntmps28
 go_wp2_with (fail)
 have BK := blk_new w (.cells #[.int .i64 t, .int .i64 s, .slice A2 l2.length c2, .slice A3 l3.length c3] 28)
 with_reducible refine (laws_markBoolS.calls k (fun k => Pa k ∧ k < w.heap.size) _ l2 a1 r1 r2 w0 _ (below_alloc HB.out _) (Kd.R_alloc ha'.out _) H1.out).mono ?_
 rintro e w2 ⟨rfl, hR, hB2, hK⟩
 have hsz : w.heap.size + 1 ≤ w2.heap.size := by have := hK.1; rw [hz] at this; exact this
 have BK2 : w2.heap[w.heap.size]? = _ := (hK.2 w.heap.size (by rw [hz]; omega) (fun h => by have := h.2; omega)).trans BK
 have HC0 : w2.cell? ⟨w.heap.size, 3, none⟩ = some (.slice A3 l3.length c3) := (blk_cell BK2 3).trans rfl
 have HS2 := Aside0.mk (Kd.S_kept (Kd.S_alloc hb'.out _) hK (fun k hk hk2 => hd k hk2.1 hk.1))
 have HR2 := Aside0.mk hR
 have HB2 := Aside0.mk hB2
 have HK2 := Aside0.mk (show Kept w w2 (fun k => Pa k ∧ k < w.heap.size) from ⟨by omega, fun i hi hn => (hK.2 i (by rw [hz]; omega) hn).trans (Below.heap_alloc w _ i hi)⟩)
 clear BK BK2 hR hB2 hK
 go_wp2_with (fail)
 with_reducible refine (laws_markInt64SS.calls k (fun k => Pb k ∧ k < w.heap.size) _ l3 r1 r r3 w0 w2 HB2.out HS2.out H2.out).mono ?_
 rintro e w3 ⟨rfl, hS, hB3, hK⟩
 have HR3 := Aside0.mk (Kd.R_kept (Kd.R_mono (Kd.R_bound HR2.out) (ok' := fun k => (Pa k ∨ w.heap.size ≤ k)) (fun k hk => by rcases hk.1 with h | h; exact .inl h.1; exact .inr (by rw [hz] at h; omega))) hK (fun k hk hk2 => by rcases hk with h | h; exact hd k h hk2.1; have := hk2.2; omega))
 have HS3 := Aside0.mk (Kd.S_mono hS (ok' := fun k => Pb k ∨ w.heap.size ≤ k) (fun k hk => by rcases hk with h | h; exact .inl h.1; exact .inr (by omega)))
 have HB3 := Aside0.mk hB3
 have HK3 := Aside0.mk (show Kept w w3 (fun k => Pa k ∨ Pb k) from ⟨by have := hK.1; omega, fun i hi hn => (hK.2 i (by omega) (fun h => hn (.inr h.1))).trans (HK2.out.2 i hi (fun h => hn (.inl h.1)))⟩)
 clear hS hB3 hK
 go_wp2
 go_ret
 exact ⟨rfl, HR3.out, HS3.out, HB3.out, HK3.out⟩
end Go.Proofs.YtbkcllfgolmloaaDoor.X

namespace Go.Proofs.YtbkcllfgolmloaaDoor.X
open Go Go.RowKit Go.Proofs.YtbkcllfgolmloaaDoorW.PrintWords Go.Proofs.YtbkcllfgolmloaaDoorW.PrintLast Go.Proofs.YtbkcllfgolmloaaDoorW.PrintMore
set_option linter.unusedVariables false
set_option linter.unusedSimpArgs false
/-- The rows of a relation: the marks' block and the rows' blocks are apart, and lie from lo below hi. -/
def RelOwn (W : World) (base lo hi : Nat) (va vb : Value) (l2 : List Bool) (l3 : List (List Int)) : Prop :=
 ∃ Pa Pb : Nat → Prop, Kd.R Kd.bool 4 W base Pa va l2 ∧ Kd.S (Kd.slice 2 (Kd.int .i64)) 55 W base Pb vb l3 ∧ (∀ k, Pa k → ¬ Pb k) ∧ ∀ k, Pa k ∨ Pb k → lo ≤ k ∧ k < hi
theorem RelOwn.mk_ {W : World} {base B : Nat} {va vb : Value} {l2 : List Bool} {l3 : List (List Int)} (hb : base ≤ B) (hR : Kd.R Kd.bool 4 W B (fun _ => True) va l2) (hS : Kd.S (Kd.slice 2 (Kd.int .i64)) 55 W B (fun _ => True) vb l3) : RelOwn W base B W.heap.size va vb l2 l3 := by
 refine ⟨_, _, Kd.R_lower (Kd.R_bound hR) hb, Kd.S_lower (Kd.S_bound hS) hb, ?_, ?_⟩
 ·rintro k ⟨_, _, _, q, hq, c, hc⟩ ⟨_, _, _, q2, hq2, c2, hc2⟩
  rw [hc] at hc2
  have hqq : q = q2 := by injection hc2 with h; injection h
  subst hqq
  revert hq hq2
  simp [Kd.bool, Kd.slice, Kd.int, Kd.scalar]
  try omega
 ·rintro k (h | h)
  ·exact ⟨h.2.1, h.2.2.1⟩
  ·exact ⟨h.2.1, h.2.2.1⟩
theorem RelOwn.below {W W1 : World} {base lo hi : Nat} {va vb : Value} {l2 : List Bool} {l3 : List (List Int)} (h : RelOwn W base lo hi va vb l2 l3) (hb : Below W.heap.size W W1) : RelOwn W1 base lo hi va vb l2 l3 := by
 obtain ⟨Pa, Pb, h1, h2, h3, h4⟩ := h
 exact ⟨Pa, Pb, Kd.R_below h1 hb, Kd.S_below h2 hb, h3, h4⟩
theorem RelOwn.kept {W W1 : World} {S : Nat → Prop} {base lo hi : Nat} {va vb : Value} {l2 : List Bool} {l3 : List (List Int)} (h : RelOwn W base lo hi va vb l2 l3) (hk : Kept W W1 S) (hS : ∀ k, lo ≤ k → k < hi → ¬ S k) : RelOwn W1 base lo hi va vb l2 l3 := by
 obtain ⟨Pa, Pb, h1, h2, h3, h4⟩ := h
 exact ⟨Pa, Pb, Kd.R_kept h1 hk (fun k hp => hS k (h4 k (.inl hp)).1 (h4 k (.inl hp)).2), Kd.S_kept h2 hk (fun k hp => hS k (h4 k (.inr hp)).1 (h4 k (.inr hp)).2), h3, h4⟩
/-- 'markRelation' on a relation in its own stretch of the heap. -/
theorem RelOwn.mark {lo hi : Nat} (k : Nat) (t s : Int) (va vb : Value) (l2 : List Bool) (l3 : List (List Int)) (a1 r1 r : Int) (r2 : List Bool) (r3 : List (List Int)) (w0 w : World) (hB : Below w0.heap.size w0 w) (h : RelOwn w w0.heap.size lo hi va vb l2 l3) (hlo : lo ≤ w.heap.size)
  (h1 : laws_markBoolS.f k l2 a1 = some (r1, r2)) (h2 : laws_markInt64SS.f k l3 r1 = some (r, r3)) :
  Calls Tryd.prog 28 #[.agg #[.int .i64 t, .int .i64 s, va, vb], .int .i64 a1] w fun e w' =>
   e = .returned (.int .i64 r) ∧ RelOwn w' w0.heap.size lo w'.heap.size va vb r2 r3 ∧ Below w0.heap.size w0 w' ∧ Kept w w' (fun k => lo ≤ k ∧ k < hi) := by
 obtain ⟨Pa, Pb, ha, hb, hd, hi_⟩ := h
 have hb0 := Kd.S_mono (Kd.S_bound hb) (ok' := fun k => Pb k ∧ k < w.heap.size) (fun k hk => ⟨hk.1, hk.2.2.1⟩)
 have ha0 := Kd.R_mono (Kd.R_bound ha) (ok' := fun k => Pa k ∧ k < w.heap.size) (fun k hk => ⟨hk.1, hk.2.2.1⟩)
 refine (markRelation_calls k t s _ _ va vb l2 l3 a1 r1 r r2 r3 w0 w hB ha0 hb0 (fun k h1 h2 => hd k h1.1 h2.1) h1 h2).mono ?_
 rintro e w' ⟨rfl, hR, hS, hB', hK⟩
 refine ⟨rfl, ?_, hB', hK.mono (fun k hk => by rcases hk with h | h; exact hi_ k (.inl h.1); exact hi_ k (.inr h.1))⟩
 have hR' := Kd.R_bound hR
 have hS' := Kd.S_bound hS
 refine ⟨_, _, hR', hS', ?_, ?_⟩
 ·rintro k ⟨_, _, _, q, hq, c, hc⟩ ⟨_, _, _, q2, hq2, c2, hc2⟩
  rw [hc] at hc2
  have hqq : q = q2 := by injection hc2 with h; injection h
  subst hqq
  revert hq hq2
  simp [Kd.bool, Kd.slice, Kd.int, Kd.scalar]
  try omega
 ·rintro k (h | h)
  ·refine ⟨?_, h.2.2.1⟩
   rcases h.1 with h | h
   ·exact (hi_ k (.inl h.1)).1
   ·omega
  ·refine ⟨?_, h.2.2.1⟩
   rcases h.1 with h | h
   ·exact (hi_ k (.inr h.1)).1
   ·omega
theorem RelOwn.reads {W : World} {base lo hi : Nat} {A2 A3 : Option Addr} {c2 c3 : Nat} {l2 : List Bool} {l3 : List (List Int)} (h : RelOwn W base lo hi (.slice A2 l2.length c2) (.slice A3 l3.length c3) l2 l3) :
  Kd.C Kd.bool W A2 l2.length l2 ∧ l2.length ≤ c2 ∧ Kd.C (Kd.slice 2 (Kd.int .i64)) W A3 l3.length l3 ∧ l3.length ≤ c3 := by
 obtain ⟨Pa, Pb, h1, h2, _, _⟩ := h
 exact ⟨(Kd.R_reads' h1).2.2, (Kd.R_reads' h1).2.1, (Kd.S_reads' h2).2.2, (Kd.S_reads' h2).2.1⟩
theorem RelOwn.reads' {W : World} {base lo hi n2 n3 : Nat} {A2 A3 : Option Addr} {c2 c3 : Nat} {l2 : List Bool} {l3 : List (List Int)} (h : RelOwn W base lo hi (.slice A2 n2 c2) (.slice A3 n3 c3) l2 l3) :
  n2 = l2.length ∧ n3 = l3.length ∧ Kd.C Kd.bool W A2 l2.length l2 ∧ l2.length ≤ c2 ∧ Kd.C (Kd.slice 2 (Kd.int .i64)) W A3 l3.length l3 ∧ l3.length ≤ c3 := by
 obtain ⟨Pa, Pb, h1, h2, _, _⟩ := h
 obtain ⟨rfl, a1, a2⟩ := Kd.R_reads' h1
 obtain ⟨rfl, b1, b2⟩ := Kd.S_reads' h2
 exact ⟨rfl, rfl, a2, a1, b2, b1⟩
/-- A relation that was handed back to be read: its blocks lie in a stretch of the heap. -/
def RelRd (W : World) (base lo hi : Nat) (va vb : Value) (l2 : List Bool) (l3 : List (List Int)) : Prop :=
 ∃ Pa Pb : Nat → Prop, Kd.R Kd.bool 4 W base Pa va l2 ∧ Kd.N (Kd.slice 2 (Kd.int .i64)) 55 W base Pb vb l3 ∧ ∀ k, Pa k ∨ Pb k → lo ≤ k ∧ k < hi
theorem RelRd.mk_ {W : World} {base B : Nat} {va vb : Value} {l2 : List Bool} {l3 : List (List Int)} {okA okB : Nat → Prop} (hb : base ≤ B) (hR : Kd.R Kd.bool 4 W B okA va l2) (hN : Kd.N (Kd.slice 2 (Kd.int .i64)) 55 W B okB vb l3) (hB : ∀ k, okB k → B ≤ k) : RelRd W base B W.heap.size va vb l2 l3 := by
 refine ⟨_, _, Kd.R_lower (Kd.R_bound hR) hb, Kd.N_lower (Kd.N_bound hN) hb, ?_⟩
 rintro k (h | h)
 ·exact ⟨h.2.1, h.2.2.1⟩
 ·exact ⟨hB k h.1, h.2⟩
theorem RelRd.below {W W1 : World} {base lo hi : Nat} {va vb : Value} {l2 : List Bool} {l3 : List (List Int)} (h : RelRd W base lo hi va vb l2 l3) (hb : Below W.heap.size W W1) : RelRd W1 base lo hi va vb l2 l3 := by
 obtain ⟨Pa, Pb, h1, h2, h4⟩ := h
 exact ⟨Pa, Pb, Kd.R_below h1 hb, Kd.N_below h2 hb, h4⟩
theorem RelRd.kept {W W1 : World} {S : Nat → Prop} {base lo hi : Nat} {va vb : Value} {l2 : List Bool} {l3 : List (List Int)} (h : RelRd W base lo hi va vb l2 l3) (hk : Kept W W1 S) (hS : ∀ k, lo ≤ k → k < hi → ¬ S k) : RelRd W1 base lo hi va vb l2 l3 := by
 obtain ⟨Pa, Pb, h1, h2, h4⟩ := h
 exact ⟨Pa, Pb, Kd.R_kept h1 hk (fun k hp => hS k (h4 k (.inl hp)).1 (h4 k (.inl hp)).2), Kd.N_kept h2 hk (fun k hp => hS k (h4 k (.inr hp)).1 (h4 k (.inr hp)).2), h4⟩
theorem RelRd.reads {W : World} {base lo hi : Nat} {A2 A3 : Option Addr} {c2 c3 : Nat} {l2 : List Bool} {l3 : List (List Int)} (h : RelRd W base lo hi (.slice A2 l2.length c2) (.slice A3 l3.length c3) l2 l3) :
  Kd.C Kd.bool W A2 l2.length l2 ∧ l2.length ≤ c2 ∧ Kd.C (Kd.slice 2 (Kd.int .i64)) W A3 l3.length l3 ∧ l3.length ≤ c3 := by
 obtain ⟨Pa, Pb, h1, h2, _⟩ := h
 exact ⟨(Kd.R_reads' h1).2.2, (Kd.R_reads' h1).2.1, (Kd.N_reads' h2).2.2, (Kd.N_reads' h2).2.1⟩
end Go.Proofs.YtbkcllfgolmloaaDoor.X

-- Written by a program of this claim's author, out of the translation.
namespace Go.Proofs.YtbkcllfgolmloaaDoor.X
open Go.RowKit Go.Proofs.YtbkcllfgolmloaaDoorW.PrintWords Go.Proofs.YtbkcllfgolmloaaDoorW.PrintLast Go.Proofs.YtbkcllfgolmloaaDoorW.PrintMore
attribute [local go_sem] max2_int min2_int max_two min_two max_three min_three max_four min_four   -- for this text's walks alone
set_option linter.unusedVariables false
set_option linter.unusedSimpArgs false
def laws_eqBoolS.l0 : Nat → List Bool → List Bool → Int → Option (Bool)
 | 0, _, _, _ => none
 | k + 1, x0, x1, x5 => if x5 < (x0.length : Int) then (if 0 ≤ x5 then (if x5 < (x1.length : Int) then (if ((rdOf false x0 x5) != (rdOf false x1 x5)) = true then (some false) else (laws_eqBoolS.l0 k x0 x1 (wrap64 (x5 + 1)))) else (none)) else (none)) else (some true)
def laws_eqBoolS.f (k : Nat) (l0 : List Bool) (l1 : List Bool) : Option (Bool) := if (l0.length : Int) = (l1.length : Int) then (laws_eqBoolS.l0 k l0 l1 0) else (some false)
set_option maxHeartbeats 8000000 in
set_option maxRecDepth 100000 in
theorem laws_eqBoolS.calls (k : Nat) (A0 : Option Addr) (c0 : Nat) (l0 : List Bool) (A1 : Option Addr) (c1 : Nat) (l1 : List Bool) (r : Bool) (w : World) (hr0 : Kd.C Kd.bool w A0 l0.length l0) (hc0 : l0.length ≤ c0) (hr1 : Kd.C Kd.bool w A1 l1.length l1) (hc1 : l1.length ≤ c1) (h : laws_eqBoolS.f k l0 l1 = some r) :
  Calls Tryd.prog 52 #[.slice A0 l0.length c0, .slice A1 l1.length c1] w fun e w' => e = .returned (.bool r) ∧ Drawn0 w w' := by
 have HR0 := Aside0.mk hr0
 have HC0 := Aside0.mk hc0
 clear hr0 hc0
 have HR1 := Aside0.mk hr1
 have HC1 := Aside0.mk hc1
 clear hr1 hc1
 have H : (if (l0.length : Int) = (l1.length : Int) then (laws_eqBoolS.l0 k l0 l1 0) else (some false)) = some r := h
 clear h
 by_cases c3 : (l0.length : Int) = (l1.length : Int)
 ·rw [if_pos c3] at H
  have c3b0 : ((l0.length : Int) == (l1.length : Int)) = true := beq_iff_eq.mpr c3
  have c3b1 : ((l0.length : Int) != (l1.length : Int)) = false := bne_eq_false_iff_eq.mpr c3
  have c3b2 : (l0.length == l1.length) = true := by first | simpa using c3 | (simp at c3 ⊢; omega)
  clear c3
  have H' := Aside0.mk H
  clear H
  go_enter Tryd.func52, Tryd.ntmps52
  go_wp2
  repeat (go_quiet (fail); try go_wp2)
  go_loopg [5] k (fun kq v5 w' => ∃ (x5_1 : Int), v5 = .int .i64 x5_1 ∧ Aside0 (laws_eqBoolS.l0 kq l0 l1 x5_1 = some r) ∧ Aside0 (kq ≤ k) ∧ Drawn0 w w')
  case atStart => exact ⟨(0), (by first | rfl | (simp; done) | (simp [*]; done)), H', ⟨Nat.le_refl _⟩, by repeat (first | exact Drawn0.refl _ | apply Drawn0.step)⟩
  case round =>
   clear H'
   try clear c1
   try clear p2
   try clear c3
   try clear c3b0
   try clear c3b1
   try clear c3b2
   obtain ⟨x5_1, rfl, HA, HK1, ⟨m1, rfl⟩⟩ := hrel
   cases gk with
   | zero => exact absurd HA.out (by simp [laws_eqBoolS.l0])
   | succ k1 =>
    have H := HA.out
    clear HA
    simp only [laws_eqBoolS.l0] at H
    by_cases c4 : x5_1 < (l0.length : Int)
    ·rw [if_pos c4] at H
     have c4b0 : decide (x5_1 < (l0.length : Int)) = true := decide_eq_true c4
     clear c4
     by_cases c5 : 0 ≤ x5_1
     ·rw [if_pos c5] at H
      have c5b0 : decide (0 ≤ x5_1) = true := decide_eq_true c5
      clear c5
      by_cases c6 : x5_1 < (l1.length : Int)
      ·rw [if_pos c6] at H
       have c6b0 : decide (x5_1 < (l1.length : Int)) = true := decide_eq_true c6
       clear c6
       by_cases c7 : ((rdOf false l0 x5_1) != (rdOf false l1 x5_1)) = true
       ·rw [if_pos c7] at H
        have c7b0 : ((rdOf false l0 x5_1) != (rdOf false l1 x5_1)) = true := c7
        (try (have c7b1 : decide ((rdOf false l0 x5_1) = (rdOf false l1 x5_1)) = false := by simpa using c7))
        (try (have c7b2 : ((rdOf false l0 x5_1) == (rdOf false l1 x5_1)) = false := by simpa using c7))
        (try (have c7b3 : ¬ ((rdOf false l0 x5_1) = (rdOf false l1 x5_1)) := by simpa using c7))
        clear c7
        obtain rfl := Option.some.inj H
        have p197 : 0 ≤ (x5_1 : Int) := of_decide_eq_true (by first | (with_reducible assumption) | assumption)
        have q197 : x5_1 < (l0.length : Int) := of_decide_eq_true (by first | (with_reducible assumption) | assumption)
        obtain ⟨ad197, e197, hx197_0⟩ := Kd.at_bool HR0.out x5_1 p197 q197
        cases e197
        replace p197 := eq_true p197
        replace q197 := eq_true q197
        have p198 : 0 ≤ (x5_1 : Int) := of_decide_eq_true (by first | (with_reducible assumption) | assumption)
        have q198 : x5_1 < (l1.length : Int) := of_decide_eq_true (by first | (with_reducible assumption) | assumption)
        obtain ⟨ad198, e198, hx198_0⟩ := Kd.at_bool HR1.out x5_1 p198 q198
        cases e198
        replace p198 := eq_true p198
        replace q198 := eq_true q198
        go_wp2
        repeat (go_quiet (fail); try go_wp2)
        go_ret
        exact ⟨by first | rfl | (simp; done) | (simp [*]; done), by repeat (first | exact Drawn0.refl _ | apply Drawn0.step)⟩
       ·rw [if_neg c7] at H
        have c7b0 : ((rdOf false l0 x5_1) != (rdOf false l1 x5_1)) = false := by simpa using c7
        (try (have c7b1 : decide ((rdOf false l0 x5_1) = (rdOf false l1 x5_1)) = true := by simpa using c7))
        (try (have c7b2 : ((rdOf false l0 x5_1) == (rdOf false l1 x5_1)) = true := by simpa using c7))
        clear c7
        have H' := Aside0.mk H
        clear H
        have p197 : 0 ≤ (x5_1 : Int) := of_decide_eq_true (by first | (with_reducible assumption) | assumption)
        have q197 : x5_1 < (l0.length : Int) := of_decide_eq_true (by first | (with_reducible assumption) | assumption)
        obtain ⟨ad197, e197, hx197_0⟩ := Kd.at_bool HR0.out x5_1 p197 q197
        cases e197
        replace p197 := eq_true p197
        replace q197 := eq_true q197
        have p198 : 0 ≤ (x5_1 : Int) := of_decide_eq_true (by first | (with_reducible assumption) | assumption)
        have q198 : x5_1 < (l1.length : Int) := of_decide_eq_true (by first | (with_reducible assumption) | assumption)
        obtain ⟨ad198, e198, hx198_0⟩ := Kd.at_bool HR1.out x5_1 p198 q198
        cases e198
        replace p198 := eq_true p198
        replace q198 := eq_true q198
        go_wp2
        repeat (go_quiet (fail); try go_wp2)
        go_roundg k1
        case measure => have := HK1.out; omega
        case rel => exact ⟨(wrap64 (x5_1 + 1)), (by first | rfl | (simp; done) | (simp [*]; done)), H', ⟨by have := HK1.out; omega⟩, by repeat (first | exact Drawn0.refl _ | apply Drawn0.step)⟩
      ·rw [if_neg c6] at H
       exact absurd H (by simp)
     ·rw [if_neg c5] at H
      exact absurd H (by simp)
    ·rw [if_neg c4] at H
     have c4b0 : decide (x5_1 < (l0.length : Int)) = false := decide_eq_false c4
     clear c4
     obtain rfl := Option.some.inj H
     go_wp2
     repeat (go_quiet (fail); try go_wp2)
     go_ret
     exact ⟨by first | rfl | (simp; done) | (simp [*]; done), by repeat (first | exact Drawn0.refl _ | apply Drawn0.step)⟩
 ·rw [if_neg c3] at H
  have c3b0 : ((l0.length : Int) == (l1.length : Int)) = false := beq_eq_false_iff_ne.mpr c3
  have c3b1 : ((l0.length : Int) != (l1.length : Int)) = true := bne_iff_ne.mpr c3
  have c3b2 : (l0.length == l1.length) = false := by first | simpa using c3 | (simp at c3 ⊢; omega)
  obtain rfl := Option.some.inj H
  go_enter Tryd.func52, Tryd.ntmps52
  go_wp2
  repeat (go_quiet (fail); try go_wp2)
  go_ret
  exact ⟨by first | rfl | (simp; done) | (simp [*]; done), by repeat (first | exact Drawn0.refl _ | apply Drawn0.step)⟩
end Go.Proofs.YtbkcllfgolmloaaDoor.X

-- Written by a program of this claim's author, out of the translation.
namespace Go.Proofs.YtbkcllfgolmloaaDoor.X
open Go.RowKit Go.Proofs.YtbkcllfgolmloaaDoorW.PrintWords Go.Proofs.YtbkcllfgolmloaaDoorW.PrintLast Go.Proofs.YtbkcllfgolmloaaDoorW.PrintMore
attribute [local go_sem] max2_int min2_int max_two min_two max_three min_three max_four min_four   -- for this text's walks alone
set_option linter.unusedVariables false
set_option linter.unusedSimpArgs false
def laws_eqInt64S.l0 : Nat → List Int → List Int → Int → Option (Bool)
 | 0, _, _, _ => none
 | k + 1, x0, x1, x5 => if x5 < (x0.length : Int) then (if 0 ≤ x5 then (if x5 < (x1.length : Int) then (if (rd x0 x5) = (rd x1 x5) then (laws_eqInt64S.l0 k x0 x1 (wrap64 (x5 + 1))) else (some false)) else (none)) else (none)) else (some true)
def laws_eqInt64S.f (k : Nat) (l0 : List Int) (l1 : List Int) : Option (Bool) := if (l0.length : Int) = (l1.length : Int) then (laws_eqInt64S.l0 k l0 l1 0) else (some false)
set_option maxHeartbeats 8000000 in
set_option maxRecDepth 100000 in
theorem laws_eqInt64S.calls (k : Nat) (A0 : Option Addr) (c0 : Nat) (l0 : List Int) (A1 : Option Addr) (c1 : Nat) (l1 : List Int) (r : Bool) (w : World) (hr0 : Kd.C (Kd.int .i64) w A0 l0.length l0) (hc0 : l0.length ≤ c0) (hr1 : Kd.C (Kd.int .i64) w A1 l1.length l1) (hc1 : l1.length ≤ c1) (h : laws_eqInt64S.f k l0 l1 = some r) :
  Calls Tryd.prog 101 #[.slice A0 l0.length c0, .slice A1 l1.length c1] w fun e w' => e = .returned (.bool r) ∧ Drawn0 w w' := by
 have HR0 := Aside0.mk hr0
 have HC0 := Aside0.mk hc0
 clear hr0 hc0
 have HR1 := Aside0.mk hr1
 have HC1 := Aside0.mk hc1
 clear hr1 hc1
 have H : (if (l0.length : Int) = (l1.length : Int) then (laws_eqInt64S.l0 k l0 l1 0) else (some false)) = some r := h
 clear h
 by_cases c3 : (l0.length : Int) = (l1.length : Int)
 ·rw [if_pos c3] at H
  have c3b0 : ((l0.length : Int) == (l1.length : Int)) = true := beq_iff_eq.mpr c3
  have c3b1 : ((l0.length : Int) != (l1.length : Int)) = false := bne_eq_false_iff_eq.mpr c3
  have c3b2 : (l0.length == l1.length) = true := by first | simpa using c3 | (simp at c3 ⊢; omega)
  clear c3
  have H' := Aside0.mk H
  clear H
  go_enter Tryd.func101, Tryd.ntmps101
  go_wp2
  repeat (go_quiet (fail); try go_wp2)
  go_loopg [5] k (fun kq v5 w' => ∃ (x5_1 : Int), v5 = .int .i64 x5_1 ∧ Aside0 (laws_eqInt64S.l0 kq l0 l1 x5_1 = some r) ∧ Aside0 (kq ≤ k) ∧ Drawn0 w w')
  case atStart => exact ⟨(0), (by first | rfl | (simp; done) | (simp [*]; done)), H', ⟨Nat.le_refl _⟩, by repeat (first | exact Drawn0.refl _ | apply Drawn0.step)⟩
  case round =>
   clear H'
   try clear c1
   try clear p2
   try clear c3
   try clear c3b0
   try clear c3b1
   try clear c3b2
   obtain ⟨x5_1, rfl, HA, HK1, ⟨m1, rfl⟩⟩ := hrel
   cases gk with
   | zero => exact absurd HA.out (by simp [laws_eqInt64S.l0])
   | succ k1 =>
    have H := HA.out
    clear HA
    simp only [laws_eqInt64S.l0] at H
    by_cases c4 : x5_1 < (l0.length : Int)
    ·rw [if_pos c4] at H
     have c4b0 : decide (x5_1 < (l0.length : Int)) = true := decide_eq_true c4
     clear c4
     by_cases c5 : 0 ≤ x5_1
     ·rw [if_pos c5] at H
      have c5b0 : decide (0 ≤ x5_1) = true := decide_eq_true c5
      clear c5
      by_cases c6 : x5_1 < (l1.length : Int)
      ·rw [if_pos c6] at H
       have c6b0 : decide (x5_1 < (l1.length : Int)) = true := decide_eq_true c6
       clear c6
       by_cases c7 : (rd l0 x5_1) = (rd l1 x5_1)
       ·rw [if_pos c7] at H
        have c7b0 : ((rd l0 x5_1) == (rd l1 x5_1)) = true := beq_iff_eq.mpr c7
        have c7b1 : ((rd l0 x5_1) != (rd l1 x5_1)) = false := bne_eq_false_iff_eq.mpr c7
        clear c7
        have H' := Aside0.mk H
        clear H
        have p199 : 0 ≤ (x5_1 : Int) := of_decide_eq_true (by first | (with_reducible assumption) | assumption)
        have q199 : x5_1 < (l0.length : Int) := of_decide_eq_true (by first | (with_reducible assumption) | assumption)
        obtain ⟨ad199, e199, hx199_0⟩ := Kd.at_int HR0.out x5_1 p199 q199
        cases e199
        replace p199 := eq_true p199
        replace q199 := eq_true q199
        have p200 : 0 ≤ (x5_1 : Int) := of_decide_eq_true (by first | (with_reducible assumption) | assumption)
        have q200 : x5_1 < (l1.length : Int) := of_decide_eq_true (by first | (with_reducible assumption) | assumption)
        obtain ⟨ad200, e200, hx200_0⟩ := Kd.at_int HR1.out x5_1 p200 q200
        cases e200
        replace p200 := eq_true p200
        replace q200 := eq_true q200
        go_wp2
        repeat (go_quiet (fail); try go_wp2)
        go_roundg k1
        case measure => have := HK1.out; omega
        case rel => exact ⟨(wrap64 (x5_1 + 1)), (by first | rfl | (simp; done) | (simp [*]; done)), H', ⟨by have := HK1.out; omega⟩, by repeat (first | exact Drawn0.refl _ | apply Drawn0.step)⟩
       ·rw [if_neg c7] at H
        have c7b0 : ((rd l0 x5_1) == (rd l1 x5_1)) = false := beq_eq_false_iff_ne.mpr c7
        have c7b1 : ((rd l0 x5_1) != (rd l1 x5_1)) = true := bne_iff_ne.mpr c7
        obtain rfl := Option.some.inj H
        have p199 : 0 ≤ (x5_1 : Int) := of_decide_eq_true (by first | (with_reducible assumption) | assumption)
        have q199 : x5_1 < (l0.length : Int) := of_decide_eq_true (by first | (with_reducible assumption) | assumption)
        obtain ⟨ad199, e199, hx199_0⟩ := Kd.at_int HR0.out x5_1 p199 q199
        cases e199
        replace p199 := eq_true p199
        replace q199 := eq_true q199
        have p200 : 0 ≤ (x5_1 : Int) := of_decide_eq_true (by first | (with_reducible assumption) | assumption)
        have q200 : x5_1 < (l1.length : Int) := of_decide_eq_true (by first | (with_reducible assumption) | assumption)
        obtain ⟨ad200, e200, hx200_0⟩ := Kd.at_int HR1.out x5_1 p200 q200
        cases e200
        replace p200 := eq_true p200
        replace q200 := eq_true q200
        go_wp2
        repeat (go_quiet (fail); try go_wp2)
        go_ret
        exact ⟨by first | rfl | (simp; done) | (simp [*]; done), by repeat (first | exact Drawn0.refl _ | apply Drawn0.step)⟩
      ·rw [if_neg c6] at H
       exact absurd H (by simp)
     ·rw [if_neg c5] at H
      exact absurd H (by simp)
    ·rw [if_neg c4] at H
     have c4b0 : decide (x5_1 < (l0.length : Int)) = false := decide_eq_false c4
     clear c4
     obtain rfl := Option.some.inj H
     go_wp2
     repeat (go_quiet (fail); try go_wp2)
     go_ret
     exact ⟨by first | rfl | (simp; done) | (simp [*]; done), by repeat (first | exact Drawn0.refl _ | apply Drawn0.step)⟩
 ·rw [if_neg c3] at H
  have c3b0 : ((l0.length : Int) == (l1.length : Int)) = false := beq_eq_false_iff_ne.mpr c3
  have c3b1 : ((l0.length : Int) != (l1.length : Int)) = true := bne_iff_ne.mpr c3
  have c3b2 : (l0.length == l1.length) = false := by first | simpa using c3 | (simp at c3 ⊢; omega)
  obtain rfl := Option.some.inj H
  go_enter Tryd.func101, Tryd.ntmps101
  go_wp2
  repeat (go_quiet (fail); try go_wp2)
  go_ret
  exact ⟨by first | rfl | (simp; done) | (simp [*]; done), by repeat (first | exact Drawn0.refl _ | apply Drawn0.step)⟩
end Go.Proofs.YtbkcllfgolmloaaDoor.X

-- Written by a program of this claim's author, out of the translation.
namespace Go.Proofs.YtbkcllfgolmloaaDoor.X
open Go.RowKit Go.Proofs.YtbkcllfgolmloaaDoorW.PrintWords Go.Proofs.YtbkcllfgolmloaaDoorW.PrintLast Go.Proofs.YtbkcllfgolmloaaDoorW.PrintMore
attribute [local go_sem] max2_int min2_int max_two min_two max_three min_three max_four min_four   -- for this text's walks alone
set_option linter.unusedVariables false
set_option linter.unusedSimpArgs false
def laws_eqInt64SS.l0 : Nat → List (List Int) → List (List Int) → Int → Option (Bool)
 | 0, _, _, _ => none
 | k + 1, x0, x1, x5 => if x5 < (x0.length : Int) then (if 0 ≤ x5 then (if x5 < (x1.length : Int) then ((laws_eqInt64S.f k (rd_L2 x0 x5) (rd_L2 x1 x5)).bind fun t203 => (if t203 = true then (laws_eqInt64SS.l0 k x0 x1 (wrap64 (x5 + 1))) else (some false))) else (none)) else (none)) else (some true)
def laws_eqInt64SS.f (k : Nat) (l0 : List (List Int)) (l1 : List (List Int)) : Option (Bool) := if (l0.length : Int) = (l1.length : Int) then (laws_eqInt64SS.l0 k l0 l1 0) else (some false)
set_option maxHeartbeats 8000000 in
set_option maxRecDepth 100000 in
theorem laws_eqInt64SS.calls (k : Nat) (A0 : Option Addr) (c0 : Nat) (l0 : List (List Int)) (A1 : Option Addr) (c1 : Nat) (l1 : List (List Int)) (r : Bool) (w : World) (hr0 : Kd.C (Kd.slice 2 (Kd.int .i64)) w A0 l0.length l0) (hc0 : l0.length ≤ c0) (hr1 : Kd.C (Kd.slice 2 (Kd.int .i64)) w A1 l1.length l1) (hc1 : l1.length ≤ c1) (h : laws_eqInt64SS.f k l0 l1 = some r) :
  Calls Tryd.prog 53 #[.slice A0 l0.length c0, .slice A1 l1.length c1] w fun e w' => e = .returned (.bool r) ∧ Drawn0 w w' := by
 have HR0 := Aside0.mk hr0
 have HC0 := Aside0.mk hc0
 clear hr0 hc0
 have HR1 := Aside0.mk hr1
 have HC1 := Aside0.mk hc1
 clear hr1 hc1
 have H : (if (l0.length : Int) = (l1.length : Int) then (laws_eqInt64SS.l0 k l0 l1 0) else (some false)) = some r := h
 clear h
 by_cases c3 : (l0.length : Int) = (l1.length : Int)
 ·rw [if_pos c3] at H
  have c3b0 : ((l0.length : Int) == (l1.length : Int)) = true := beq_iff_eq.mpr c3
  have c3b1 : ((l0.length : Int) != (l1.length : Int)) = false := bne_eq_false_iff_eq.mpr c3
  have c3b2 : (l0.length == l1.length) = true := by first | simpa using c3 | (simp at c3 ⊢; omega)
  clear c3
  have H' := Aside0.mk H
  clear H
  go_enter Tryd.func53, Tryd.ntmps53
  go_wp2
  repeat (go_quiet (fail); try go_wp2)
  go_loopg [5] k (fun kq v5 w' => ∃ (x5_1 : Int), v5 = .int .i64 x5_1 ∧ Aside0 (laws_eqInt64SS.l0 kq l0 l1 x5_1 = some r) ∧ Aside0 (kq ≤ k) ∧ Drawn0 w w')
  case atStart => exact ⟨(0), (by first | rfl | (simp; done) | (simp [*]; done)), H', ⟨Nat.le_refl _⟩, by repeat (first | exact Drawn0.refl _ | apply Drawn0.step)⟩
  case round =>
   clear H'
   try clear c1
   try clear p2
   try clear c3
   try clear c3b0
   try clear c3b1
   try clear c3b2
   obtain ⟨x5_1, rfl, HA, HK1, ⟨m1, rfl⟩⟩ := hrel
   cases gk with
   | zero => exact absurd HA.out (by simp [laws_eqInt64SS.l0])
   | succ k1 =>
    have H := HA.out
    clear HA
    simp only [laws_eqInt64SS.l0] at H
    by_cases c4 : x5_1 < (l0.length : Int)
    ·rw [if_pos c4] at H
     have c4b0 : decide (x5_1 < (l0.length : Int)) = true := decide_eq_true c4
     clear c4
     by_cases c5 : 0 ≤ x5_1
     ·rw [if_pos c5] at H
      have c5b0 : decide (0 ≤ x5_1) = true := decide_eq_true c5
      clear c5
      by_cases c6 : x5_1 < (l1.length : Int)
      ·rw [if_pos c6] at H
       have c6b0 : decide (x5_1 < (l1.length : Int)) = true := decide_eq_true c6
       clear c6
       replace H := Option.bind_eq_some_iff.mp H
       obtain ⟨t203, A70, H⟩ := H
       replace H : (if t203 = true then (laws_eqInt64SS.l0 k1 l0 l1 (wrap64 (x5_1 + 1))) else (some false)) = some r := H
       have A7 := Aside0.mk A70
       clear A70
       by_cases c8 : t203 = true
       ·subst c8
        have H1 : (laws_eqInt64SS.l0 k1 l0 l1 (wrap64 (x5_1 + 1))) = some r := by rw [if_pos rfl] at H; exact H
        clear H
        have H := H1
        clear H1
        have H' := Aside0.mk H
        clear H
        have p201 : 0 ≤ (x5_1 : Int) := of_decide_eq_true (by first | (with_reducible assumption) | assumption)
        have q201 : x5_1 < (l0.length : Int) := of_decide_eq_true (by first | (with_reducible assumption) | assumption)
        obtain ⟨ad201, A201_0, c201_0, e201, hx201_0, hl201_0, hi201_0⟩ := at_L2 HR0.out x5_1 p201 q201
        cases e201
        have HR201_0 := Aside0.mk hi201_0
        have HC201_0 := Aside0.mk hl201_0
        clear hi201_0 hl201_0
        replace p201 := eq_true p201
        replace q201 := eq_true q201
        have p202 : 0 ≤ (x5_1 : Int) := of_decide_eq_true (by first | (with_reducible assumption) | assumption)
        have q202 : x5_1 < (l1.length : Int) := of_decide_eq_true (by first | (with_reducible assumption) | assumption)
        obtain ⟨ad202, A202_0, c202_0, e202, hx202_0, hl202_0, hi202_0⟩ := at_L2 HR1.out x5_1 p202 q202
        cases e202
        have HR202_0 := Aside0.mk hi202_0
        have HC202_0 := Aside0.mk hl202_0
        clear hi202_0 hl202_0
        replace p202 := eq_true p202
        replace q202 := eq_true q202
        go_wp2_with (first | (go_at_call 101; (with_reducible refine (laws_eqInt64S.calls k1 _ _ (rd_L2 l0 x5_1) _ _ (rd_L2 l1 x5_1) true _ ?side1 ?side2 ?side3 ?side4 A7.out).mono ?_); (case side1 => repeat (first | exact HR201_0.out | (with_reducible refine Kd.C_alloc ?_ _) | (with_reducible refine Kd.C_drewN ?_ _) | (with_reducible refine Kd.C_drew ?_))); (case side2 => exact HC201_0.out); (case side3 => repeat (first | exact HR202_0.out | (with_reducible refine Kd.C_alloc ?_ _) | (with_reducible refine Kd.C_drewN ?_ _) | (with_reducible refine Kd.C_drew ?_))); (case side4 => exact HC202_0.out); rintro e w' ⟨rfl, ⟨nd, rfl⟩⟩; (try first | exact ⟨rfl, _, World.drewN_drewN _ _ _⟩ | exact ⟨rfl, _, Eq.trans (World.drewN_drewN _ _ _) (congrArg (World.drewN _) (Nat.add_assoc _ _ _))⟩)) | go_quiet (first | (go_at_call 101; (with_reducible refine (laws_eqInt64S.calls k1 _ _ (rd_L2 l0 x5_1) _ _ (rd_L2 l1 x5_1) true _ ?side1 ?side2 ?side3 ?side4 A7.out).mono ?_); (case side1 => repeat (first | exact HR201_0.out | (with_reducible refine Kd.C_alloc ?_ _) | (with_reducible refine Kd.C_drewN ?_ _) | (with_reducible refine Kd.C_drew ?_))); (case side2 => exact HC201_0.out); (case side3 => repeat (first | exact HR202_0.out | (with_reducible refine Kd.C_alloc ?_ _) | (with_reducible refine Kd.C_drewN ?_ _) | (with_reducible refine Kd.C_drew ?_))); (case side4 => exact HC202_0.out); rintro e w' ⟨rfl, ⟨nd, rfl⟩⟩; (try first | exact ⟨rfl, _, World.drewN_drewN _ _ _⟩ | exact ⟨rfl, _, Eq.trans (World.drewN_drewN _ _ _) (congrArg (World.drewN _) (Nat.add_assoc _ _ _))⟩))))
        go_roundg k1
        case measure => have := HK1.out; omega
        case rel => exact ⟨(wrap64 (x5_1 + 1)), (by first | rfl | (simp; done) | (simp [*]; done)), H', ⟨by have := HK1.out; omega⟩, by repeat (first | exact Drawn0.refl _ | apply Drawn0.step)⟩
       ·replace c8 := Bool.eq_false_iff.mpr c8
        subst c8
        have H1 : (some false) = some r := by rw [if_neg (show ¬ (false = true) by decide)] at H; exact H
        clear H
        have H := H1
        clear H1
        obtain rfl := Option.some.inj H
        have p201 : 0 ≤ (x5_1 : Int) := of_decide_eq_true (by first | (with_reducible assumption) | assumption)
        have q201 : x5_1 < (l0.length : Int) := of_decide_eq_true (by first | (with_reducible assumption) | assumption)
        obtain ⟨ad201, A201_0, c201_0, e201, hx201_0, hl201_0, hi201_0⟩ := at_L2 HR0.out x5_1 p201 q201
        cases e201
        have HR201_0 := Aside0.mk hi201_0
        have HC201_0 := Aside0.mk hl201_0
        clear hi201_0 hl201_0
        replace p201 := eq_true p201
        replace q201 := eq_true q201
        have p202 : 0 ≤ (x5_1 : Int) := of_decide_eq_true (by first | (with_reducible assumption) | assumption)
        have q202 : x5_1 < (l1.length : Int) := of_decide_eq_true (by first | (with_reducible assumption) | assumption)
        obtain ⟨ad202, A202_0, c202_0, e202, hx202_0, hl202_0, hi202_0⟩ := at_L2 HR1.out x5_1 p202 q202
        cases e202
        have HR202_0 := Aside0.mk hi202_0
        have HC202_0 := Aside0.mk hl202_0
        clear hi202_0 hl202_0
        replace p202 := eq_true p202
        replace q202 := eq_true q202
        go_wp2_with (first | (go_at_call 101; (with_reducible refine (laws_eqInt64S.calls k1 _ _ (rd_L2 l0 x5_1) _ _ (rd_L2 l1 x5_1) false _ ?side1 ?side2 ?side3 ?side4 A7.out).mono ?_); (case side1 => repeat (first | exact HR201_0.out | (with_reducible refine Kd.C_alloc ?_ _) | (with_reducible refine Kd.C_drewN ?_ _) | (with_reducible refine Kd.C_drew ?_))); (case side2 => exact HC201_0.out); (case side3 => repeat (first | exact HR202_0.out | (with_reducible refine Kd.C_alloc ?_ _) | (with_reducible refine Kd.C_drewN ?_ _) | (with_reducible refine Kd.C_drew ?_))); (case side4 => exact HC202_0.out); rintro e w' ⟨rfl, ⟨nd, rfl⟩⟩; (try first | exact ⟨rfl, _, World.drewN_drewN _ _ _⟩ | exact ⟨rfl, _, Eq.trans (World.drewN_drewN _ _ _) (congrArg (World.drewN _) (Nat.add_assoc _ _ _))⟩)) | go_quiet (first | (go_at_call 101; (with_reducible refine (laws_eqInt64S.calls k1 _ _ (rd_L2 l0 x5_1) _ _ (rd_L2 l1 x5_1) false _ ?side1 ?side2 ?side3 ?side4 A7.out).mono ?_); (case side1 => repeat (first | exact HR201_0.out | (with_reducible refine Kd.C_alloc ?_ _) | (with_reducible refine Kd.C_drewN ?_ _) | (with_reducible refine Kd.C_drew ?_))); (case side2 => exact HC201_0.out); (case side3 => repeat (first | exact HR202_0.out | (with_reducible refine Kd.C_alloc ?_ _) | (with_reducible refine Kd.C_drewN ?_ _) | (with_reducible refine Kd.C_drew ?_))); (case side4 => exact HC202_0.out); rintro e w' ⟨rfl, ⟨nd, rfl⟩⟩; (try first | exact ⟨rfl, _, World.drewN_drewN _ _ _⟩ | exact ⟨rfl, _, Eq.trans (World.drewN_drewN _ _ _) (congrArg (World.drewN _) (Nat.add_assoc _ _ _))⟩))))
        go_ret
        exact ⟨by first | rfl | (simp; done) | (simp [*]; done), by repeat (first | exact Drawn0.refl _ | apply Drawn0.step)⟩
      ·rw [if_neg c6] at H
       exact absurd H (by simp)
     ·rw [if_neg c5] at H
      exact absurd H (by simp)
    ·rw [if_neg c4] at H
     have c4b0 : decide (x5_1 < (l0.length : Int)) = false := decide_eq_false c4
     clear c4
     obtain rfl := Option.some.inj H
     go_wp2
     repeat (go_quiet (fail); try go_wp2)
     go_ret
     exact ⟨by first | rfl | (simp; done) | (simp [*]; done), by repeat (first | exact Drawn0.refl _ | apply Drawn0.step)⟩
 ·rw [if_neg c3] at H
  have c3b0 : ((l0.length : Int) == (l1.length : Int)) = false := beq_eq_false_iff_ne.mpr c3
  have c3b1 : ((l0.length : Int) != (l1.length : Int)) = true := bne_iff_ne.mpr c3
  have c3b2 : (l0.length == l1.length) = false := by first | simpa using c3 | (simp at c3 ⊢; omega)
  obtain rfl := Option.some.inj H
  go_enter Tryd.func53, Tryd.ntmps53
  go_wp2
  repeat (go_quiet (fail); try go_wp2)
  go_ret
  exact ⟨by first | rfl | (simp; done) | (simp [*]; done), by repeat (first | exact Drawn0.refl _ | apply Drawn0.step)⟩
end Go.Proofs.YtbkcllfgolmloaaDoor.X

