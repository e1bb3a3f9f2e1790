import Derived.Test.YtocfcpicleomcaaDoorAT2
import Derived.Test.YtocfcpicleomcaaDoorAT3
import Derived.Carry
import Derived.Outline
namespace Go.Proofs.YtocfcpicleomcaaDoor.X
set_option maxHeartbeats 16000000
set_option maxRecDepth 100000
open Go.RowKit Go.Proofs.YtocfcpicleomcaaDoorW.PrintWords Go.Proofs.YtocfcpicleomcaaDoorW.PrintLast Go.Proofs.YtocfcpicleomcaaDoorW.PrintMore
attribute [local go_sem] qr0 qp0 jl0 jk0 qb0 qa0 qq0 qo0
set_option linter.unusedVariables false
set_option linter.unusedSimpArgs false
/-- A state of type 29 at block g of W; what its slices lead to came in by w0. -/
def IsS29 (w0 W : World) (g : Nat) (f0 : Int) (f1 : Int) (f2 : List Bool) (f3 : List (List Int)) : Prop := ∃ A2 c2, ∃ A3 c3, W.heap[g]? = some (.cells #[.int .i64 f0, .int .i64 f1, .slice A2 f2.length c2, .slice A3 f3.length c3] 29 (0, 0)) ∧ w0.heap.size ≤ g ∧ Kd.C Kd.bool w0 A2 f2.length f2 ∧ Kd.C (Kd.slice 2 (Kd.int .i64)) w0 A3 f3.length f3
theorem IsS29.grown {w0 W : World} {g : Nat} {f0 : Int} {f1 : Int} {f2 : List Bool} {f3 : List (List Int)} {W1 : World} {row : Option Nat} (h : IsS29 w0 W g f0 f1 f2 f3) (hw : W.grownBy W1 row) (hne : some g ≠ row) : IsS29 w0 W1 g f0 f1 f2 f3 := by
 obtain ⟨A2, c2, A3, c3, hb, hg, hr2, hr3⟩ := h; exact ⟨A2, c2, A3, c3, xa0 hb hw hne, hg, hr2, hr3⟩
theorem IsS29.fresh {w0 W : World} {g : Nat} {f0 : Int} {f1 : Int} {f2 : List Bool} {f3 : List (List Int)} (h : IsS29 w0 W g f0 f1 f2 f3) : ∀ k, W.heap.size ≤ k → k ≠ g := by
 obtain ⟨A2, c2, A3, c3, hb, hg, hr2, hr3⟩ := h; exact Kd.freshB hb
theorem IsS29.kept {w0 W : World} {g : Nat} {f0 : Int} {f1 : Int} {f2 : List Bool} {f3 : List (List Int)} {W1 : World} {S : Nat → Prop} (h : IsS29 w0 W g f0 f1 f2 f3) (hk : Kept W W1 S) (hne : ¬ S g) : IsS29 w0 W1 g f0 f1 f2 f3 := by
 obtain ⟨A2, c2, A3, c3, hb, hg, hr2, hr3⟩ := h; exact ⟨A2, c2, A3, c3, jy2 hb hk hne, hg, hr2, hr3⟩
theorem IsS29.below {w0 W : World} {g : Nat} {f0 : Int} {f1 : Int} {f2 : List Bool} {f3 : List (List Int)} {W1 : World} (h : IsS29 w0 W g f0 f1 f2 f3) (hw : Below W.heap.size W W1) : IsS29 w0 W1 g f0 f1 f2 f3 := h.grown (xn0 hw none) (by simp)
theorem IsS29.alloc {w0 W : World} {g : Nat} {f0 : Int} {f1 : Int} {f2 : List Bool} {f3 : List (List Int)} (h : IsS29 w0 W g f0 f1 f2 f3) (o : Obj) : IsS29 w0 (W.alloc o) g f0 f1 f2 f3 := h.below (zp0 (Below.refl _ _) o)
theorem IsS29.drewN {w0 W : World} {g : Nat} {f0 : Int} {f1 : Int} {f2 : List Bool} {f3 : List (List Int)} (h : IsS29 w0 W g f0 f1 f2 f3) (m : Nat) : IsS29 w0 (W.drewN m) g f0 f1 f2 f3 := h
theorem IsS29.drew {w0 W : World} {g : Nat} {f0 : Int} {f1 : Int} {f2 : List Bool} {f3 : List (List Int)} (h : IsS29 w0 W g f0 f1 f2 f3) : IsS29 w0 W.drew g f0 f1 f2 f3 := h
theorem IsS29.at_ {w0 W : World} {g : Nat} {f0 : Int} {f1 : Int} {f2 : List Bool} {f3 : List (List Int)} {w' : World} {m : Nat} (hq : W.drewN m = w') (h : IsS29 w0 W g f0 f1 f2 f3) : IsS29 w0 w' g f0 f1 f2 f3 := by subst hq; exact IsS29.drewN h m
theorem IsS29.apart {w0 W : World} {g : Nat} {f0 : Int} {f1 : Int} {f2 : List Bool} {f3 : List (List Int)} {α : Type} {d : Kd α} {e : Nat} {base : Nat} {ok : Nat → Prop} {v : Value} {xs : List α} (h : IsS29 w0 W g f0 f1 f2 f3) (ho : d.R e W base ok v xs) (ht : ∀ q, q ∈ e :: d.E → q ≠ 29) : d.R e W base (fun k => ok k ∧ k ≠ g) v xs := by
 obtain ⟨A2, c2, A3, c3, hb, hg, hr2, hr3⟩ := h; exact Kd.qe0 ho hb ht
theorem IsS29.own_ne {w0 W : World} {g : Nat} {f0 : Int} {f1 : Int} {f2 : List Bool} {f3 : List (List Int)} {α : Type} {d : Kd α} {e : Nat} {base : Nat} {ok : Nat → Prop} {v : Value} {xs : List α} (h : IsS29 w0 W g f0 f1 f2 f3) (ho : d.R e W base ok v xs) (ht : e ≠ 29) : some g ≠ v.ownBlock := by
 obtain ⟨A2, c2, A3, c3, hb, hg, hr2, hr3⟩ := h; exact Kd.R_ne ho hb ht
theorem IsS29.lt {w0 W : World} {g : Nat} {f0 : Int} {f1 : Int} {f2 : List Bool} {f3 : List (List Int)} (h : IsS29 w0 W g f0 f1 f2 f3) : g < W.heap.size := by
 obtain ⟨A2, c2, A3, c3, hb, hg, hr2, hr3⟩ := h; exact blk_lt hb
theorem IsS29.ge {w0 W : World} {g : Nat} {f0 : Int} {f1 : Int} {f2 : List Bool} {f3 : List (List Int)} (h : IsS29 w0 W g f0 f1 f2 f3) : w0.heap.size ≤ g := by
 obtain ⟨A2, c2, A3, c3, hb, hg, hr2, hr3⟩ := h; exact hg
theorem IsS29.far {w0 W : World} {g : Nat} {f0 : Int} {f1 : Int} {f2 : List Bool} {f3 : List (List Int)} {p : Addr} (h : IsS29 w0 W g f0 f1 f2 f3) (hne : g ≠ p.block) (u : Value) : IsS29 w0 (W.setCell p u) g f0 f1 f2 f3 := by
 obtain ⟨A2, c2, A3, c3, hb, hg, hr2, hr3⟩ := h; exact ⟨A2, c2, A3, c3, yo0 hb hne u, hg, hr2, hr3⟩
theorem IsS29.set_0 {w0 W : World} {g : Nat} {f0 : Int} {f1 : Int} {f2 : List Bool} {f3 : List (List Int)} (h : IsS29 w0 W g f0 f1 f2 f3) (x : Int) : IsS29 w0 (W.setCell ⟨g, 0, none⟩ (.int .i64 x)) g x f1 f2 f3 := by
 obtain ⟨A2, c2, A3, c3, hb, hg, hr2, hr3⟩ := h; exact ⟨A2, c2, A3, c3, by simpa using xu0 hb 0 (.int .i64 x), hg, hr2, hr3⟩
theorem IsS29.set_1 {w0 W : World} {g : Nat} {f0 : Int} {f1 : Int} {f2 : List Bool} {f3 : List (List Int)} (h : IsS29 w0 W g f0 f1 f2 f3) (x : Int) : IsS29 w0 (W.setCell ⟨g, 1, none⟩ (.int .i64 x)) g f0 x f2 f3 := by
 obtain ⟨A2, c2, A3, c3, hb, hg, hr2, hr3⟩ := h; exact ⟨A2, c2, A3, c3, by simpa using xu0 hb 1 (.int .i64 x), hg, hr2, hr3⟩
theorem IsS29.new (w0 W : World) (A2 : Option Addr) (c2 : Nat) (A3 : Option Addr) (c3 : Nat) (f0 : Int) (f1 : Int) (f2 : List Bool) (f3 : List (List Int)) (hB : Below w0.heap.size w0 W) (hr2 : Kd.C Kd.bool w0 A2 f2.length f2) (hr3 : Kd.C (Kd.slice 2 (Kd.int .i64)) w0 A3 f3.length f3) : IsS29 w0 (W.alloc (.cells #[.int .i64 f0, .int .i64 f1, .slice A2 f2.length c2, .slice A3 f3.length c3] 29)) W.heap.size f0 f1 f2 f3 := ⟨A2, c2, A3, c3, by simpa using heap_alloc_new W _, hB.size, hr2, hr3⟩
/-- A relation that is read at some address. -/
def IsP29 (w0 W : World) (p0 : Addr) (f0 f1 : Int) (f2 : List Bool) (f3 : List (List Int)) : Prop := ∃ A2 c2, ∃ A3 c3, W.cell? p0 = some (.int .i64 f0) ∧ W.cell? ⟨p0.block, p0.off + 1, none⟩ = some (.int .i64 f1) ∧ W.cell? ⟨p0.block, p0.off + 2, none⟩ = some (.slice A2 f2.length c2) ∧ W.cell? ⟨p0.block, p0.off + 3, none⟩ = some (.slice A3 f3.length c3) ∧ Kd.C Kd.bool w0 A2 f2.length f2 ∧ Kd.C (Kd.slice 2 (Kd.int .i64)) w0 A3 f3.length f3
theorem IsP29.below {w0 W W1 : World} {p0 : Addr} {f0 f1 : Int} {f2 : List Bool} {f3 : List (List Int)} (h : IsP29 w0 W p0 f0 f1 f2 f3) (hb : Below W.heap.size W W1) : IsP29 w0 W1 p0 f0 f1 f2 f3 := by
 obtain ⟨A2, c2, A3, c3, h0, h1, h2, h3, h4⟩ := h; exact ⟨A2, c2, A3, c3, zb0 hb h0, zb0 hb h1, zb0 hb h2, zb0 hb h3, h4⟩
theorem IsP29.drewN {w0 W : World} {p0 : Addr} {f0 f1 : Int} {f2 : List Bool} {f3 : List (List Int)} (h : IsP29 w0 W p0 f0 f1 f2 f3) (n : Nat) : IsP29 w0 (W.drewN n) p0 f0 f1 f2 f3 := h.below (zg0 (Below.refl _ _) n)
theorem IsP29.drew {w0 W : World} {p0 : Addr} {f0 f1 : Int} {f2 : List Bool} {f3 : List (List Int)} (h : IsP29 w0 W p0 f0 f1 f2 f3) : IsP29 w0 W.drew p0 f0 f1 f2 f3 := h.below (yf0 (Below.refl _ _))
theorem IsP29.alloc {w0 W : World} {p0 : Addr} {f0 f1 : Int} {f2 : List Bool} {f3 : List (List Int)} (h : IsP29 w0 W p0 f0 f1 f2 f3) (o : Obj) : IsP29 w0 (W.alloc o) p0 f0 f1 f2 f3 := h.below (zp0 (Below.refl _ _) o)
mutual
def zk0.j0 : Nat → Int → Bool → Int → Int → List Bool → List (List Int) → Option (Bool × Int × Int)
 | 0, _, _, _, _, _, _ => none
 | k + 1, x3, x39, x1000, x1001, x1002, x1003 => if x39 = true then (some (false, x1000, x1001)) else (zk0.l0 k x3 0 x1000 x1001 x1002 x1003)
def zk0.l0 : Nat → Int → Int → Int → Int → List Bool → List (List Int) → Option (Bool × Int × Int)
 | 0, _, _, _, _, _, _ => none
 | k + 1, x3, x4, x1000, x1001, x1002, x1003 => if x4 < (x1003.length : Int) then (if 0 ≤ x4 then ((zw0.f k x1000).bind fun t110 => (if ((rd_L2 x1003 x4).length : Int) = t110 then (zk0.l1 k x3 x4 0 x1000 x1001 x1002 x1003) else (some (false, x1000, x1001)))) else (none)) else (some (true, x1000, x1001))
def zk0.l1 : Nat → Int → Int → Int → Int → Int → List Bool → List (List Int) → Option (Bool × Int × Int)
 | 0, _, _, _, _, _, _, _ => none
 | k + 1, x3, x4, x5, x1000, x1001, x1002, x1003 => if 0 ≤ x4 then (if x4 < (x1003.length : Int) then (if x5 < ((rd_L2 x1003 x4).length : Int) then (if 0 ≤ x5 then ((yh0.f (rd (rd_L2 x1003 x4) x5) 0 (wrap64 (x3 - 1))).bind fun t114 => (if t114 = true then (zk0.l1 k x3 x4 (wrap64 (x5 + 1)) x1000 x1001 x1002 x1003) else (some (false, x1000, x1001)))) else (none)) else (zk0.l0 k x3 (wrap64 (x4 + 1)) x1000 x1001 x1002 x1003)) else (none)) else (none)
end
def zk0.f (k : Nat) (s0_0 : Int) (s0_1 : Int) (s0_2 : List Bool) (s0_3 : List (List Int)) : Option (Bool × Int × Int) := (yh0.f s0_0 1 3).bind fun t107 => (if t107 = true then (if (s0_2.length : Int) < 1 then (zk0.j0 k (s0_2.length : Int) true s0_0 s0_1 s0_2 s0_3) else ((yh0.f s0_1 0 (wrap64 ((s0_2.length : Int) - 1))).bind fun t108 => (if t108 = true then (zk0.j0 k (s0_2.length : Int) ((s0_3.length : Int) != (s0_2.length : Int)) s0_0 s0_1 s0_2 s0_3) else (zk0.j0 k (s0_2.length : Int) true s0_0 s0_1 s0_2 s0_3)))) else (zk0.j0 k (s0_2.length : Int) true s0_0 s0_1 s0_2 s0_3))
theorem tI {p : Prop} (h : p := by repeat (first | (with_reducible first | exact HI0.out | apply IsS29.alloc | apply IsS29.drewN | apply IsS29.drew | apply IsS29.set_0 | apply IsS29.set_1) | exact HI0.out)) : p := h
theorem IsS29.i {w0 W : World} {g : Nat} {f0 : Int} {f1 : Int} {f2 : List Bool} {f3 : List (List Int)} (h : IsS29 w0 W g f0 f1 f2 f3) : ∃ A2 c2 A3 c3, W.cell? ⟨g, 0, none⟩ = some (.int .i64 f0) ∧ W.cell? ⟨g, 1, none⟩ = some (.int .i64 f1) ∧ W.cell? ⟨g, 2, none⟩ = some (.slice A2 f2.length c2) ∧ W.cell? ⟨g, 3, none⟩ = some (.slice A3 f3.length c3) ∧ W.frozen? ⟨g, 0, none⟩ = false ∧ W.frozen? ⟨g, 1, none⟩ = false ∧ W.frozen? ⟨g, 2, none⟩ = false ∧ W.frozen? ⟨g, 3, none⟩ = false ∧ Kd.C Kd.bool w0 A2 f2.length f2 ∧ Kd.C (Kd.slice 2 (Kd.int .i64)) w0 A3 f3.length f3 := by
 obtain ⟨A2, c2, A3, c3, h1, h2, h3, h4⟩ := h; obtain ⟨a, b, c, d⟩ := bc4 h1; obtain ⟨e, f, g_, h_⟩ := bf4 h1; exact ⟨A2, c2, A3, c3, a, b, c, d, e, f, g_, h_, h3, h4⟩
theorem tIp {p : Prop} (h : p := by repeat (first | (with_reducible first | exact HI0.out | apply IsP29.alloc | apply IsP29.drewN | apply IsP29.drew) | exact HI0.out)) : p := h
theorem zk0.atcalls (k : Nat) (p0 : Addr) (s0_0 : Int) (s0_1 : Int) (s0_2 : List Bool) (s0_3 : List (List Int)) (r1 : Bool) (r2 : Int) (r3 : Int) (w0 w : World) (hI : IsP29 w0 w p0 s0_0 s0_1 s0_2 s0_3) (hB : Below w0.heap.size w0 w) (h : zk0.f k s0_0 s0_1 s0_2 s0_3 = some (r1, r2, r3)) :
  Calls Tryd.prog 116 #[.pointer (some p0)] w fun e w' => e = .returned (.bool r1) ∧ IsP29 w0 w' p0 r2 r3 s0_2 s0_3 ∧ Below w0.heap.size w0 w' ∧ KeepBut w w' p0.block none := by
 have HI0 := am hI; have HK := am (KeepBut.refl w p0.block none); have HL := am hB.size; clear hI; have HW0 := am hB.size; have HB := am hB; clear hB; have H : ((yh0.f s0_0 1 3).bind fun t107 => (if t107 = true then (if (s0_2.length : Int) < 1 then (zk0.j0 k (s0_2.length : Int) true s0_0 s0_1 s0_2 s0_3) else ((yh0.f s0_1 0 (wrap64 ((s0_2.length : Int) - 1))).bind fun t108 => (if t108 = true then (zk0.j0 k (s0_2.length : Int) ((s0_3.length : Int) != (s0_2.length : Int)) s0_0 s0_1 s0_2 s0_3) else (zk0.j0 k (s0_2.length : Int) true s0_0 s0_1 s0_2 s0_3)))) else (zk0.j0 k (s0_2.length : Int) true s0_0 s0_1 s0_2 s0_3))) = some (r1, r2, r3) := h; clear h; have HC2 := am H; clear H; obtain ⟨ASz3_2, cSz3_2, ASz3_3, cSz3_3, hcz3_0, hcz3_1, hcz3_2, hcz3_3, HSz3_2, HSz3_3⟩ := HI0.out; go_enter Tryd.func116, Tryd.ntmps116
 go_upto_region 2 with (fail)
 repeat (go_quiet (fail); go_upto_region 2 with (fail))
 go_cut [39] (fun v39 wc => ∃ (kq : Nat) (x39_1 : Bool), v39 = .bool x39_1 ∧ Aside0 (zk0.j0 kq (s0_2.length : Int) x39_1 s0_0 s0_1 s0_2 s0_3 = some (r1, r2, r3)) ∧ Aside0 (kq ≤ k) ∧ Aside0 (IsP29 w0 wc p0 s0_0 s0_1 s0_2 s0_3) ∧ Aside0 (KeepBut w wc p0.block none) ∧ Aside0 (Below w0.heap.size w0 wc))
 case first =>
  have H := HC2.out; clear HC2; obtain ⟨t107, A40, H⟩ := oB H; replace H : (if t107 = true then (if (s0_2.length : Int) < 1 then (zk0.j0 k (s0_2.length : Int) true s0_0 s0_1 s0_2 s0_3) else ((yh0.f s0_1 0 (wrap64 ((s0_2.length : Int) - 1))).bind fun t108 => (if t108 = true then (zk0.j0 k (s0_2.length : Int) ((s0_3.length : Int) != (s0_2.length : Int)) s0_0 s0_1 s0_2 s0_3) else (zk0.j0 k (s0_2.length : Int) true s0_0 s0_1 s0_2 s0_3)))) else (zk0.j0 k (s0_2.length : Int) true s0_0 s0_1 s0_2 s0_3)) = some (r1, r2, r3) := H; have A4 := am A40; clear A40; by_cases c5 : t107 = true
  ·subst c5; (have H1 : (if (s0_2.length : Int) < 1 then (zk0.j0 k (s0_2.length : Int) true s0_0 s0_1 s0_2 s0_3) else ((yh0.f s0_1 0 (wrap64 ((s0_2.length : Int) - 1))).bind fun t108 => (if t108 = true then (zk0.j0 k (s0_2.length : Int) ((s0_3.length : Int) != (s0_2.length : Int)) s0_0 s0_1 s0_2 s0_3) else (zk0.j0 k (s0_2.length : Int) true s0_0 s0_1 s0_2 s0_3)))) = some (r1, r2, r3) := by rw [if_pos rfl] at H; exact H); clear H; have H := H1; clear H1; by_cases c6 : (s0_2.length : Int) < 1
   ·rw [if_pos c6] at H; have c6b0 := decide_eq_true c6; have c6b1 : decide (s0_2.length < 1) = true := decide_eq_true (by omega); clear c6
    (first | rw [c6b0] | (simp only [i64_w, i32_w]; rw [c6b0]) | skip)
    have H' := am H; clear H; obtain ⟨ASz7_2, cSz7_2, ASz7_3, cSz7_3, hcz7_0, hcz7_1, hcz7_2, hcz7_3, HSz7_2, HSz7_3⟩ := HI0.out
    go_wp2_with (first | (go_at_call 74; (with_reducible refine (yh0.calls s0_0 1 3 true _ A4.out).mono ?_); rintro e w' ⟨rfl, ⟨nd, rfl⟩⟩; (try first | exact ⟨rfl, _, World.drewN_drewN _ _ _⟩ | exact ⟨rfl, _, Eq.trans (World.drewN_drewN _ _ _) (congrArg (World.drewN _) (Nat.add_assoc _ _ _))⟩)) | go_quiet (first | (go_at_call 74; (with_reducible refine (yh0.calls s0_0 1 3 true _ A4.out).mono ?_); rintro e w' ⟨rfl, ⟨nd, rfl⟩⟩; (try first | exact ⟨rfl, _, World.drewN_drewN _ _ _⟩ | exact ⟨rfl, _, Eq.trans (World.drewN_drewN _ _ _) (congrArg (World.drewN _) (Nat.add_assoc _ _ _))⟩))))
    go_meet
    case rel => exact ⟨_, (true), (tF), H', ⟨by first | omega | exact Nat.le_refl _⟩, ⟨tIp⟩, ⟨tK⟩, ⟨tB⟩⟩
   ·rw [if_neg c6] at H; have c6b0 := decide_eq_false c6; have c6b1 : decide (s0_2.length < 1) = false := decide_eq_false (by omega); clear c6
    (first | rw [c6b0] | (simp only [i64_w, i32_w]; rw [c6b0]) | skip)
    obtain ⟨t108, A80, H⟩ := oB H; replace H : (if t108 = true then (zk0.j0 k (s0_2.length : Int) ((s0_3.length : Int) != (s0_2.length : Int)) s0_0 s0_1 s0_2 s0_3) else (zk0.j0 k (s0_2.length : Int) true s0_0 s0_1 s0_2 s0_3)) = some (r1, r2, r3) := H; have A8 := am A80; clear A80; by_cases c9 : t108 = true
    ·subst c9; (have H1 : (zk0.j0 k (s0_2.length : Int) ((s0_3.length : Int) != (s0_2.length : Int)) s0_0 s0_1 s0_2 s0_3) = some (r1, r2, r3) := by rw [if_pos rfl] at H; exact H); clear H; have H := H1; clear H1; have H' := am H; clear H; obtain ⟨ASz10_2, cSz10_2, ASz10_3, cSz10_3, hcz10_0, hcz10_1, hcz10_2, hcz10_3, HSz10_2, HSz10_3⟩ := HI0.out
     go_wp2_with (first | (go_at_call 74; (with_reducible refine (yh0.calls s0_0 1 3 true _ A4.out).mono ?_); rintro e w' ⟨rfl, ⟨nd, rfl⟩⟩; (try first | exact ⟨rfl, _, World.drewN_drewN _ _ _⟩ | exact ⟨rfl, _, Eq.trans (World.drewN_drewN _ _ _) (congrArg (World.drewN _) (Nat.add_assoc _ _ _))⟩)) | (go_at_call 74; (with_reducible refine (yh0.calls s0_1 0 (wrap64 ((s0_2.length : Int) - 1)) true _ A8.out).mono ?_); rintro e w' ⟨rfl, ⟨nd, rfl⟩⟩; (try first | exact ⟨rfl, _, World.drewN_drewN _ _ _⟩ | exact ⟨rfl, _, Eq.trans (World.drewN_drewN _ _ _) (congrArg (World.drewN _) (Nat.add_assoc _ _ _))⟩)) | go_quiet (first | (go_at_call 74; (with_reducible refine (yh0.calls s0_0 1 3 true _ A4.out).mono ?_); rintro e w' ⟨rfl, ⟨nd, rfl⟩⟩; (try first | exact ⟨rfl, _, World.drewN_drewN _ _ _⟩ | exact ⟨rfl, _, Eq.trans (World.drewN_drewN _ _ _) (congrArg (World.drewN _) (Nat.add_assoc _ _ _))⟩)) | (go_at_call 74; (with_reducible refine (yh0.calls s0_1 0 (wrap64 ((s0_2.length : Int) - 1)) true _ A8.out).mono ?_); rintro e w' ⟨rfl, ⟨nd, rfl⟩⟩; (try first | exact ⟨rfl, _, World.drewN_drewN _ _ _⟩ | exact ⟨rfl, _, Eq.trans (World.drewN_drewN _ _ _) (congrArg (World.drewN _) (Nat.add_assoc _ _ _))⟩))))
     go_meet
     case rel => exact ⟨_, (((s0_3.length : Int) != (s0_2.length : Int))), (tF), H', ⟨by first | omega | exact Nat.le_refl _⟩, ⟨tIp⟩, ⟨tK⟩, ⟨tB⟩⟩
    ·replace c9 := Bool.eq_false_iff.mpr c9; subst c9; (have H1 : (zk0.j0 k (s0_2.length : Int) true s0_0 s0_1 s0_2 s0_3) = some (r1, r2, r3) := by rw [if_neg (show ¬ (false = true) by decide)] at H; exact H); clear H; have H := H1; clear H1; have H' := am H; clear H; obtain ⟨ASz11_2, cSz11_2, ASz11_3, cSz11_3, hcz11_0, hcz11_1, hcz11_2, hcz11_3, HSz11_2, HSz11_3⟩ := HI0.out
     go_wp2_with (first | (go_at_call 74; (with_reducible refine (yh0.calls s0_0 1 3 true _ A4.out).mono ?_); rintro e w' ⟨rfl, ⟨nd, rfl⟩⟩; (try first | exact ⟨rfl, _, World.drewN_drewN _ _ _⟩ | exact ⟨rfl, _, Eq.trans (World.drewN_drewN _ _ _) (congrArg (World.drewN _) (Nat.add_assoc _ _ _))⟩)) | (go_at_call 74; (with_reducible refine (yh0.calls s0_1 0 (wrap64 ((s0_2.length : Int) - 1)) false _ A8.out).mono ?_); rintro e w' ⟨rfl, ⟨nd, rfl⟩⟩; (try first | exact ⟨rfl, _, World.drewN_drewN _ _ _⟩ | exact ⟨rfl, _, Eq.trans (World.drewN_drewN _ _ _) (congrArg (World.drewN _) (Nat.add_assoc _ _ _))⟩)) | go_quiet (first | (go_at_call 74; (with_reducible refine (yh0.calls s0_0 1 3 true _ A4.out).mono ?_); rintro e w' ⟨rfl, ⟨nd, rfl⟩⟩; (try first | exact ⟨rfl, _, World.drewN_drewN _ _ _⟩ | exact ⟨rfl, _, Eq.trans (World.drewN_drewN _ _ _) (congrArg (World.drewN _) (Nat.add_assoc _ _ _))⟩)) | (go_at_call 74; (with_reducible refine (yh0.calls s0_1 0 (wrap64 ((s0_2.length : Int) - 1)) false _ A8.out).mono ?_); rintro e w' ⟨rfl, ⟨nd, rfl⟩⟩; (try first | exact ⟨rfl, _, World.drewN_drewN _ _ _⟩ | exact ⟨rfl, _, Eq.trans (World.drewN_drewN _ _ _) (congrArg (World.drewN _) (Nat.add_assoc _ _ _))⟩))))
     go_meet
     case rel => exact ⟨_, (true), (tF), H', ⟨by first | omega | exact Nat.le_refl _⟩, ⟨tIp⟩, ⟨tK⟩, ⟨tB⟩⟩
  ·replace c5 := Bool.eq_false_iff.mpr c5; subst c5; (have H1 : (zk0.j0 k (s0_2.length : Int) true s0_0 s0_1 s0_2 s0_3) = some (r1, r2, r3) := by rw [if_neg (show ¬ (false = true) by decide)] at H; exact H); clear H; have H := H1; clear H1; have H' := am H; clear H; obtain ⟨ASz12_2, cSz12_2, ASz12_3, cSz12_3, hcz12_0, hcz12_1, hcz12_2, hcz12_3, HSz12_2, HSz12_3⟩ := HI0.out
   go_wp2_with (first | (go_at_call 74; (with_reducible refine (yh0.calls s0_0 1 3 false _ A4.out).mono ?_); rintro e w' ⟨rfl, ⟨nd, rfl⟩⟩; (try first | exact ⟨rfl, _, World.drewN_drewN _ _ _⟩ | exact ⟨rfl, _, Eq.trans (World.drewN_drewN _ _ _) (congrArg (World.drewN _) (Nat.add_assoc _ _ _))⟩)) | go_quiet (first | (go_at_call 74; (with_reducible refine (yh0.calls s0_0 1 3 false _ A4.out).mono ?_); rintro e w' ⟨rfl, ⟨nd, rfl⟩⟩; (try first | exact ⟨rfl, _, World.drewN_drewN _ _ _⟩ | exact ⟨rfl, _, Eq.trans (World.drewN_drewN _ _ _) (congrArg (World.drewN _) (Nat.add_assoc _ _ _))⟩))))
   go_meet
   case rel => exact ⟨_, (true), (tF), H', ⟨by first | omega | exact Nat.le_refl _⟩, ⟨tIp⟩, ⟨tK⟩, ⟨tB⟩⟩
 case rest =>
  clear HC2
  try clear c1; try clear p2; try clear c5; try clear c6; try clear c6b0; try clear c6b1; try clear p6; try clear c9; try clear c11; try clear hcz10_0; try clear hcz10_1; try clear hcz10_2; try clear hcz10_3; try clear hcz11_0; try clear hcz11_1; try clear hcz11_2; try clear hcz11_3; try clear hcz12_0; try clear hcz12_1; try clear hcz12_2; try clear hcz12_3; try clear hcz3_0; try clear hcz3_1; try clear hcz3_2; try clear hcz3_3; try clear hcz7_0; try clear hcz7_1; try clear hcz7_2; try clear hcz7_3; try clear hfz10_0; try clear hfz10_1; try clear hfz11_0; try clear hfz11_1; try clear hfz12_0; try clear hfz12_1; try clear hfz3_0; try clear hfz3_1; try clear hfz7_0; try clear hfz7_1
  obtain ⟨kq, x39_1, rfl, HA, HJ1, HI0, HK, HB⟩ := hcut
  cases kq with
  | zero => exact absurd HA.out (by simp [zk0.j0])
  | succ kj1 =>
   have H := HA.out; clear HA; simp only [zk0.j0] at H; by_cases c13 : x39_1 = true
   ·subst c13; (have H1 : (some (false, s0_0, s0_1)) = some (r1, r2, r3) := by rw [if_pos rfl] at H; exact H); clear H; have H := H1; clear H1; simp only [Option.some.injEq, Prod.mk.injEq] at H; obtain ⟨rfl, rfl, rfl⟩ := H; go_wp2
    repeat (go_quiet (fail); try go_wp2)
    go_ret; exact ⟨tE, tIp, tB, tK⟩
   ·replace c13 := Bool.eq_false_iff.mpr c13; subst c13; (have H1 : (zk0.l0 kj1 (s0_2.length : Int) 0 s0_0 s0_1 s0_2 s0_3) = some (r1, r2, r3) := by rw [if_neg (show ¬ (false = true) by decide)] at H; exact H); clear H; have H := H1; clear H1; have H' := am H; clear H; go_wp2
    repeat (go_quiet (fail); try go_wp2)
    go_loopg [4] kj1 (fun kq v4 w' => ∃ (x4_2 : Int), v4 = .int .i64 x4_2 ∧ Aside0 (zk0.l0 kq (s0_2.length : Int) x4_2 s0_0 s0_1 s0_2 s0_3 = some (r1, r2, r3)) ∧ Aside0 (kq ≤ kj1) ∧ Aside0 (IsP29 w0 w' p0 s0_0 s0_1 s0_2 s0_3) ∧ Aside0 (KeepBut w w' p0.block none) ∧ Aside0 (Below w0.heap.size w0 w'))
    case atStart => exact ⟨(0), (tF), H', ⟨Nat.le_refl _⟩, ⟨tIp⟩, ⟨tK⟩, ⟨tB⟩⟩
    case round =>
     clear H'
     try clear c1; try clear p2; try clear c5; try clear c6; try clear c6b0; try clear c6b1; try clear p6; try clear c9; try clear c11; try clear c13; try clear hcz10_0; try clear hcz10_1; try clear hcz10_2; try clear hcz10_3; try clear hcz11_0; try clear hcz11_1; try clear hcz11_2; try clear hcz11_3; try clear hcz12_0; try clear hcz12_1; try clear hcz12_2; try clear hcz12_3; try clear hcz3_0; try clear hcz3_1; try clear hcz3_2; try clear hcz3_3; try clear hcz7_0; try clear hcz7_1; try clear hcz7_2; try clear hcz7_3; try clear hfz10_0; try clear hfz10_1; try clear hfz11_0; try clear hfz11_1; try clear hfz12_0; try clear hfz12_1; try clear hfz3_0; try clear hfz3_1; try clear hfz7_0; try clear hfz7_1; try clear p2; try clear p6
     obtain ⟨x4_2, rfl, HA, HK2, HI0, HK, HB⟩ := hrel
     cases gk with
     | zero => exact absurd HA.out (by simp [zk0.l0])
     | succ k2 =>
      have H := HA.out; clear HA; simp only [zk0.l0] at H; by_cases c14 : x4_2 < (s0_3.length : Int)
      ·rw [if_pos c14] at H; have c14b0 := decide_eq_true c14; clear c14; by_cases c15 : 0 ≤ x4_2
       ·rw [if_pos c15] at H; have c15b0 := decide_eq_true c15; clear c15; obtain ⟨t110, A160, H⟩ := oB H; replace H : (if ((rd_L2 s0_3 x4_2).length : Int) = t110 then (zk0.l1 k2 (s0_2.length : Int) x4_2 0 s0_0 s0_1 s0_2 s0_3) else (some (false, s0_0, s0_1))) = some (r1, r2, r3) := H; have A16 := am A160; clear A160; by_cases c17 : ((rd_L2 s0_3 x4_2).length : Int) = t110
        ·rw [if_pos c17] at H; have c17b0 : (((rd_L2 s0_3 x4_2).length : Int) == t110) = true := beq_iff_eq.mpr c17; have c17b1 : (((rd_L2 s0_3 x4_2).length : Int) != t110) = false := bne_eq_false_iff_eq.mpr c17; clear c17; have H' := am H; clear H; obtain ⟨ASz18_2, cSz18_2, ASz18_3, cSz18_3, hcz18_0, hcz18_1, hcz18_2, hcz18_3, HSz18_2, HSz18_3⟩ := HI0.out; have p109 : 0 ≤ (x4_2 : Int) := oA; have q109 : x4_2 < (s0_3.length : Int) := oA; obtain ⟨ad109, A109_0, c109_0, e109, hx109_0, hl109_0, hi109_0⟩ := at_L2 HSz18_3 x4_2 p109 q109; cases e109; replace hx109_0 := zb0 HB.out hx109_0; have HR109_0 := am hi109_0; have HC109_0 := am hl109_0; clear hi109_0 hl109_0; replace p109 := eq_true p109; replace q109 := eq_true q109
         go_wp2_with (first | (go_at_call 76; (with_reducible refine (zw0.calls k2 s0_0 t110 _ A16.out).mono ?_); rintro e w' ⟨rfl, ⟨nd, rfl⟩⟩; (try first | exact ⟨rfl, _, World.drewN_drewN _ _ _⟩ | exact ⟨rfl, _, Eq.trans (World.drewN_drewN _ _ _) (congrArg (World.drewN _) (Nat.add_assoc _ _ _))⟩)) | go_quiet (first | (go_at_call 76; (with_reducible refine (zw0.calls k2 s0_0 t110 _ A16.out).mono ?_); rintro e w' ⟨rfl, ⟨nd, rfl⟩⟩; (try first | exact ⟨rfl, _, World.drewN_drewN _ _ _⟩ | exact ⟨rfl, _, Eq.trans (World.drewN_drewN _ _ _) (congrArg (World.drewN _) (Nat.add_assoc _ _ _))⟩))))
         go_loopg [5] k2 (fun kq v5 w' => ∃ (x5_3 : Int), v5 = .int .i64 x5_3 ∧ Aside0 (zk0.l1 kq (s0_2.length : Int) x4_2 x5_3 s0_0 s0_1 s0_2 s0_3 = some (r1, r2, r3)) ∧ Aside0 (kq ≤ k2) ∧ Aside0 (Kd.C (Kd.int .i64) w' A109_0 (rd_L2 s0_3 x4_2).length (rd_L2 s0_3 x4_2)) ∧ Aside0 (IsP29 w0 w' p0 s0_0 s0_1 s0_2 s0_3) ∧ Aside0 (KeepBut w w' p0.block none) ∧ Aside0 (Below w0.heap.size w0 w'))
         case atStart => exact ⟨(0), (tF), H', ⟨Nat.le_refl _⟩, ⟨by repeat (first | (with_reducible exact HR109_0.out) | (with_reducible exact Kd.zn0 HR109_0.out HB.out) | (with_reducible refine Kd.ku1 ?_ _) | (with_reducible refine Kd.kt1 ?_ _) | (with_reducible refine Kd.C_drew ?_) | exact HR109_0.out)⟩, ⟨tIp⟩, ⟨tK⟩, ⟨tB⟩⟩
         case round =>
          clear H'
          try clear c1; try clear p1; try clear q1; try clear hx1; try clear p2; try clear c5; try clear c6; try clear c6b0; try clear c6b1; try clear p6; try clear c9; try clear c10; try clear p10; try clear q10; try clear hx10; try clear c11; try clear c13; try clear c14; try clear c14b0; try clear c15; try clear c15b0; try clear c17; try clear c17b0; try clear c17b1; try clear hcz10_0; try clear hcz10_1; try clear hcz10_2; try clear hcz10_3; try clear hcz11_0; try clear hcz11_1; try clear hcz11_2; try clear hcz11_3; try clear hcz12_0; try clear hcz12_1; try clear hcz12_2; try clear hcz12_3; try clear hcz18_0; try clear hcz18_1; try clear hcz18_2; try clear hcz18_3; try clear hcz3_0; try clear hcz3_1; try clear hcz3_2; try clear hcz3_3; try clear hcz7_0; try clear hcz7_1; try clear hcz7_2; try clear hcz7_3; try clear hfz10_0; try clear hfz10_1; try clear hfz11_0; try clear hfz11_1; try clear hfz12_0; try clear hfz12_1; try clear hfz18_0; try clear hfz18_1; try clear hfz3_0; try clear hfz3_1; try clear hfz7_0; try clear hfz7_1; try clear hx109_0; try clear p109; try clear p2; try clear p6; try clear q109
          obtain ⟨x5_3, rfl, HA, HK3, HR109_0, HI0, HK, HB⟩ := hrel
          cases gk with
          | zero => exact absurd HA.out (by simp [zk0.l1])
          | succ k3 =>
           have H := HA.out; clear HA; simp only [zk0.l1] at H; by_cases c19 : 0 ≤ x4_2
           ·rw [if_pos c19] at H; have c19b0 := decide_eq_true c19; clear c19; by_cases c20 : x4_2 < (s0_3.length : Int)
            ·rw [if_pos c20] at H; have c20b0 := decide_eq_true c20; clear c20; by_cases c21 : x5_3 < ((rd_L2 s0_3 x4_2).length : Int)
             ·rw [if_pos c21] at H; have c21b0 := decide_eq_true c21; clear c21; by_cases c22 : 0 ≤ x5_3
              ·rw [if_pos c22] at H; have c22b0 := decide_eq_true c22; clear c22; obtain ⟨t114, A230, H⟩ := oB H; replace H : (if t114 = true then (zk0.l1 k3 (s0_2.length : Int) x4_2 (wrap64 (x5_3 + 1)) s0_0 s0_1 s0_2 s0_3) else (some (false, s0_0, s0_1))) = some (r1, r2, r3) := H; have A23 := am A230; clear A230; by_cases c24 : t114 = true
               ·subst c24; (have H1 : (zk0.l1 k3 (s0_2.length : Int) x4_2 (wrap64 (x5_3 + 1)) s0_0 s0_1 s0_2 s0_3) = some (r1, r2, r3) := by rw [if_pos rfl] at H; exact H); clear H; have H := H1; clear H1; have H' := am H; clear H; obtain ⟨ASz25_2, cSz25_2, ASz25_3, cSz25_3, hcz25_0, hcz25_1, hcz25_2, hcz25_3, HSz25_2, HSz25_3⟩ := HI0.out; have p111 : 0 ≤ (x4_2 : Int) := oA; have q111 : x4_2 < (s0_3.length : Int) := oA; obtain ⟨ad111, A111_0, c111_0, e111, hx111_0, hl111_0, hi111_0⟩ := at_L2 HSz25_3 x4_2 p111 q111; cases e111; replace hx111_0 := zb0 HB.out hx111_0; have HR111_0 := am hi111_0; have HC111_0 := am hl111_0; clear hi111_0 hl111_0; replace p111 := eq_true p111; replace q111 := eq_true q111; have p112 : 0 ≤ (x4_2 : Int) := oA; have q112 : x4_2 < (s0_3.length : Int) := oA; obtain ⟨ad112, A112_0, c112_0, e112, hx112_0, hl112_0, hi112_0⟩ := at_L2 HSz25_3 x4_2 p112 q112; obtain rfl : ad111 = ad112 := (by injection e112); replace hx112_0 := zb0 HB.out hx112_0
                try (have hxe_ := hx111_0.symm.trans hx112_0; injection hxe_ with hxe_; injection hxe_ with hA_ hl_ hc_; subst hA_; subst hc_)
                have HR112_0 := am hi112_0; have HC112_0 := am hl112_0; clear hi112_0 hl112_0; replace p112 := eq_true p112; replace q112 := eq_true q112; have p113 : 0 ≤ (x5_3 : Int) := oA; have q113 : x5_3 < ((rd_L2 s0_3 x4_2).length : Int) := oA; obtain ⟨ad113, e113, hx113_0⟩ := Kd.at_int HR112_0.out x5_3 p113 q113; cases e113; replace hx113_0 := (by first | exact yl0 HK.out hx113_0 (by first | (rw [add_block]; exact hf112_0 _ rfl (by omega)) | exact hf112_0 _ rfl (by omega) | exact hf112_0 ad113 rfl (by omega)) | exact zb0 HB.out hx113_0); replace p113 := eq_true p113; replace q113 := eq_true q113
                go_wp2_with (first | (go_at_call 74; (with_reducible refine (yh0.calls (rd (rd_L2 s0_3 x4_2) x5_3) 0 (wrap64 ((s0_2.length : Int) - 1)) true _ A23.out).mono ?_); rintro e w' ⟨rfl, ⟨nd, rfl⟩⟩; (try first | exact ⟨rfl, _, World.drewN_drewN _ _ _⟩ | exact ⟨rfl, _, Eq.trans (World.drewN_drewN _ _ _) (congrArg (World.drewN _) (Nat.add_assoc _ _ _))⟩)) | go_quiet (first | (go_at_call 74; (with_reducible refine (yh0.calls (rd (rd_L2 s0_3 x4_2) x5_3) 0 (wrap64 ((s0_2.length : Int) - 1)) true _ A23.out).mono ?_); rintro e w' ⟨rfl, ⟨nd, rfl⟩⟩; (try first | exact ⟨rfl, _, World.drewN_drewN _ _ _⟩ | exact ⟨rfl, _, Eq.trans (World.drewN_drewN _ _ _) (congrArg (World.drewN _) (Nat.add_assoc _ _ _))⟩))))
                go_roundg k3
                case measure => have := HJ1.out; have := HK2.out; have := HK3.out; omega
                case rel => exact ⟨(wrap64 (x5_3 + 1)), (tF), H', ⟨by have := HJ1.out; have := HK2.out; have := HK3.out; omega⟩, ⟨by repeat (first | (with_reducible exact HR109_0.out) | (with_reducible exact Kd.zn0 HR109_0.out HB.out) | (with_reducible refine Kd.ku1 ?_ _) | (with_reducible refine Kd.kt1 ?_ _) | (with_reducible refine Kd.C_drew ?_) | exact HR109_0.out)⟩, ⟨tIp⟩, ⟨tK⟩, ⟨tB⟩⟩
               ·replace c24 := Bool.eq_false_iff.mpr c24; subst c24; (have H1 : (some (false, s0_0, s0_1)) = some (r1, r2, r3) := by rw [if_neg (show ¬ (false = true) by decide)] at H; exact H); clear H; have H := H1; clear H1; simp only [Option.some.injEq, Prod.mk.injEq] at H; obtain ⟨rfl, rfl, rfl⟩ := H; obtain ⟨ASz26_2, cSz26_2, ASz26_3, cSz26_3, hcz26_0, hcz26_1, hcz26_2, hcz26_3, HSz26_2, HSz26_3⟩ := HI0.out; have p111 : 0 ≤ (x4_2 : Int) := oA; have q111 : x4_2 < (s0_3.length : Int) := oA; obtain ⟨ad111, A111_0, c111_0, e111, hx111_0, hl111_0, hi111_0⟩ := at_L2 HSz26_3 x4_2 p111 q111; cases e111; replace hx111_0 := zb0 HB.out hx111_0; have HR111_0 := am hi111_0; have HC111_0 := am hl111_0; clear hi111_0 hl111_0; replace p111 := eq_true p111; replace q111 := eq_true q111; have p112 : 0 ≤ (x4_2 : Int) := oA; have q112 : x4_2 < (s0_3.length : Int) := oA; obtain ⟨ad112, A112_0, c112_0, e112, hx112_0, hl112_0, hi112_0⟩ := at_L2 HSz26_3 x4_2 p112 q112; obtain rfl : ad111 = ad112 := (by injection e112); replace hx112_0 := zb0 HB.out hx112_0
                try (have hxe_ := hx111_0.symm.trans hx112_0; injection hxe_ with hxe_; injection hxe_ with hA_ hl_ hc_; subst hA_; subst hc_)
                have HR112_0 := am hi112_0; have HC112_0 := am hl112_0; clear hi112_0 hl112_0; replace p112 := eq_true p112; replace q112 := eq_true q112; have p113 : 0 ≤ (x5_3 : Int) := oA; have q113 : x5_3 < ((rd_L2 s0_3 x4_2).length : Int) := oA; obtain ⟨ad113, e113, hx113_0⟩ := Kd.at_int HR112_0.out x5_3 p113 q113; cases e113; replace hx113_0 := (by first | exact yl0 HK.out hx113_0 (by first | (rw [add_block]; exact hf112_0 _ rfl (by omega)) | exact hf112_0 _ rfl (by omega) | exact hf112_0 ad113 rfl (by omega)) | exact zb0 HB.out hx113_0); replace p113 := eq_true p113; replace q113 := eq_true q113
                go_wp2_with (first | (go_at_call 74; (with_reducible refine (yh0.calls (rd (rd_L2 s0_3 x4_2) x5_3) 0 (wrap64 ((s0_2.length : Int) - 1)) false _ A23.out).mono ?_); rintro e w' ⟨rfl, ⟨nd, rfl⟩⟩; (try first | exact ⟨rfl, _, World.drewN_drewN _ _ _⟩ | exact ⟨rfl, _, Eq.trans (World.drewN_drewN _ _ _) (congrArg (World.drewN _) (Nat.add_assoc _ _ _))⟩)) | go_quiet (first | (go_at_call 74; (with_reducible refine (yh0.calls (rd (rd_L2 s0_3 x4_2) x5_3) 0 (wrap64 ((s0_2.length : Int) - 1)) false _ A23.out).mono ?_); rintro e w' ⟨rfl, ⟨nd, rfl⟩⟩; (try first | exact ⟨rfl, _, World.drewN_drewN _ _ _⟩ | exact ⟨rfl, _, Eq.trans (World.drewN_drewN _ _ _) (congrArg (World.drewN _) (Nat.add_assoc _ _ _))⟩))))
                go_ret; exact ⟨tE, tIp, tB, tK⟩
              ·rw [if_neg c22] at H; exact absurd H (by simp)
             ·rw [if_neg c21] at H; have c21b0 := decide_eq_false c21; clear c21; have H' := am H; clear H; obtain ⟨ASz27_2, cSz27_2, ASz27_3, cSz27_3, hcz27_0, hcz27_1, hcz27_2, hcz27_3, HSz27_2, HSz27_3⟩ := HI0.out; have p111 : 0 ≤ (x4_2 : Int) := oA; have q111 : x4_2 < (s0_3.length : Int) := oA; obtain ⟨ad111, A111_0, c111_0, e111, hx111_0, hl111_0, hi111_0⟩ := at_L2 HSz27_3 x4_2 p111 q111; cases e111; replace hx111_0 := zb0 HB.out hx111_0; have HR111_0 := am hi111_0; have HC111_0 := am hl111_0; clear hi111_0 hl111_0; replace p111 := eq_true p111; replace q111 := eq_true q111; go_wp2
              repeat (go_quiet (fail); try go_wp2)
              go_roundg k3
              case measure => have := HJ1.out; have := HK2.out; have := HK3.out; omega
              case rel => exact ⟨(wrap64 (x4_2 + 1)), (tF), H', ⟨by have := HJ1.out; have := HK2.out; have := HK3.out; omega⟩, ⟨tIp⟩, ⟨tK⟩, ⟨tB⟩⟩
            ·rw [if_neg c20] at H; exact absurd H (by simp)
           ·rw [if_neg c19] at H; exact absurd H (by simp)
        ·rw [if_neg c17] at H; have c17b0 : (((rd_L2 s0_3 x4_2).length : Int) == t110) = false := beq_eq_false_iff_ne.mpr c17; have c17b1 : (((rd_L2 s0_3 x4_2).length : Int) != t110) = true := bne_iff_ne.mpr c17; simp only [Option.some.injEq, Prod.mk.injEq] at H; obtain ⟨rfl, rfl, rfl⟩ := H; obtain ⟨ASz28_2, cSz28_2, ASz28_3, cSz28_3, hcz28_0, hcz28_1, hcz28_2, hcz28_3, HSz28_2, HSz28_3⟩ := HI0.out; have p109 : 0 ≤ (x4_2 : Int) := oA; have q109 : x4_2 < (s0_3.length : Int) := oA; obtain ⟨ad109, A109_0, c109_0, e109, hx109_0, hl109_0, hi109_0⟩ := at_L2 HSz28_3 x4_2 p109 q109; cases e109; replace hx109_0 := zb0 HB.out hx109_0; have HR109_0 := am hi109_0; have HC109_0 := am hl109_0; clear hi109_0 hl109_0; replace p109 := eq_true p109; replace q109 := eq_true q109
         go_wp2_with (first | (go_at_call 76; (with_reducible refine (zw0.calls k2 s0_0 t110 _ A16.out).mono ?_); rintro e w' ⟨rfl, ⟨nd, rfl⟩⟩; (try first | exact ⟨rfl, _, World.drewN_drewN _ _ _⟩ | exact ⟨rfl, _, Eq.trans (World.drewN_drewN _ _ _) (congrArg (World.drewN _) (Nat.add_assoc _ _ _))⟩)) | go_quiet (first | (go_at_call 76; (with_reducible refine (zw0.calls k2 s0_0 t110 _ A16.out).mono ?_); rintro e w' ⟨rfl, ⟨nd, rfl⟩⟩; (try first | exact ⟨rfl, _, World.drewN_drewN _ _ _⟩ | exact ⟨rfl, _, Eq.trans (World.drewN_drewN _ _ _) (congrArg (World.drewN _) (Nat.add_assoc _ _ _))⟩))))
         go_ret; exact ⟨tE, tIp, tB, tK⟩
       ·rw [if_neg c15] at H; exact absurd H (by simp)
      ·rw [if_neg c14] at H; have c14b0 := decide_eq_false c14; clear c14; simp only [Option.some.injEq, Prod.mk.injEq] at H; obtain ⟨rfl, rfl, rfl⟩ := H; obtain ⟨ASz29_2, cSz29_2, ASz29_3, cSz29_3, hcz29_0, hcz29_1, hcz29_2, hcz29_3, HSz29_2, HSz29_3⟩ := HI0.out; go_wp2
       repeat (go_quiet (fail); try go_wp2)
       go_ret; exact ⟨tE, tIp, tB, tK⟩
def qs0.f (k : Nat) (s0_0 : Int) (s0_1 : Int) (s0_2 : List Bool) (s0_3 : List (List Int)) : Option (Bool × Int × Int) := if (s0_2.length : Int) ≤ 150 then ((zk0.f k s0_0 s0_1 s0_2 s0_3).bind fun bt115 => (some (bt115.1, bt115.2.1, bt115.2.2))) else (some (false, s0_0, s0_1))
theorem qs0.atcalls (k : Nat) (p0 : Addr) (s0_0 : Int) (s0_1 : Int) (s0_2 : List Bool) (s0_3 : List (List Int)) (r1 : Bool) (r2 : Int) (r3 : Int) (w0 w : World) (hI : IsP29 w0 w p0 s0_0 s0_1 s0_2 s0_3) (hB : Below w0.heap.size w0 w) (h : qs0.f k s0_0 s0_1 s0_2 s0_3 = some (r1, r2, r3)) :
  Calls Tryd.prog 62 #[.pointer (some p0)] w fun e w' => e = .returned (.bool r1) ∧ IsP29 w0 w' p0 r2 r3 s0_2 s0_3 ∧ Below w0.heap.size w0 w' ∧ KeepBut w w' p0.block none := by
 have HI0 := am hI; have HK := am (KeepBut.refl w p0.block none); have HL := am hB.size; clear hI; have HW0 := am hB.size; have HB := am hB; clear hB; have H : (if (s0_2.length : Int) ≤ 150 then ((zk0.f k s0_0 s0_1 s0_2 s0_3).bind fun bt115 => (some (bt115.1, bt115.2.1, bt115.2.2))) else (some (false, s0_0, s0_1))) = some (r1, r2, r3) := h; clear h; by_cases c2 : (s0_2.length : Int) ≤ 150
 ·rw [if_pos c2] at H; have c2b0 := decide_eq_true c2; have c2b1 : decide (s0_2.length ≤ 150) = true := decide_eq_true (by omega); clear c2; obtain ⟨⟨t115, t116, t117⟩, A30, H⟩ := oB H; replace H : (some (t115, t116, t117)) = some (r1, r2, r3) := H; have A3 := am A30; clear A30; simp only [Option.some.injEq, Prod.mk.injEq] at H; obtain ⟨rfl, rfl, rfl⟩ := H; obtain ⟨ASz4_2, cSz4_2, ASz4_3, cSz4_3, hcz4_0, hcz4_1, hcz4_2, hcz4_3, HSz4_2, HSz4_3⟩ := HI0.out; go_enter Tryd.func62, Tryd.ntmps62
  go_wp2_with (first | (go_at_call 116; (with_reducible refine (zk0.atcalls k p0 s0_0 s0_1 s0_2 s0_3 t115 t116 t117 w0 _ ?side1 ?side2 A3.out).mono ?_); (case side1 => repeat (first | (with_reducible first | exact HI0.out | apply IsP29.alloc | apply IsP29.drewN | apply IsP29.drew | apply IsP29.set_0 | apply IsP29.set_1) | exact HI0.out)); (case side2 => repeat (first | (with_reducible first | exact HB.out | apply zp0 | apply zg0 | apply yf0 | refine zz0 ?_ (IsP29.ge HI0.out)) | exact HB.out)); rintro e w5 ⟨rfl, hi, hb, hk⟩; replace HK := am (KeepBut.trans (tK) hk (.inl rfl)); replace HB := am (hb); replace HI0 := am (hi); (try clear hb); (try clear hb2); (try clear hk); (try clear hi)))
  go_ret; exact ⟨tE, tIp, tB, tK⟩
 ·rw [if_neg c2] at H; have c2b0 := decide_eq_false c2; have c2b1 : decide (s0_2.length ≤ 150) = false := decide_eq_false (by omega); clear c2; simp only [Option.some.injEq, Prod.mk.injEq] at H; obtain ⟨rfl, rfl, rfl⟩ := H; obtain ⟨ASz6_2, cSz6_2, ASz6_3, cSz6_3, hcz6_0, hcz6_1, hcz6_2, hcz6_3, HSz6_2, HSz6_3⟩ := HI0.out; go_enter Tryd.func62, Tryd.ntmps62; go_wp2; go_ret; exact ⟨tE, tIp, tB, tK⟩
def xr0.f (k : Nat) (a0_0 : Int) (a0_1 : Int) (l0_2 : List Bool) (l0_3 : List (List Int))  : Option ((Bool)) := (qs0.f k a0_0 a0_1 l0_2 l0_3 ).bind fun b => if b.2.1 = a0_0 ∧ b.2.2 = a0_1 then some b.1 else none
theorem xr0.calls (k : Nat) {g : Nat} (a0_0 : Int) (a0_1 : Int) (A0_2 : Option Addr) (c0_2 : Nat) (l0_2 : List Bool) (A0_3 : Option Addr) (c0_3 : Nat) (l0_3 : List (List Int))  (r1 : Bool) (w : World) (hbox : w.heap[g]? = some (.cells #[.int .i64 a0_0, .int .i64 a0_1, .slice A0_2 l0_2.length c0_2, .slice A0_3 l0_3.length c0_3] 29 (0, 0))) (hr0_2 : Kd.C Kd.bool w A0_2 l0_2.length l0_2) (hc0_2 : l0_2.length ≤ c0_2) (hr0_3 : Kd.C (Kd.slice 2 (Kd.int .i64)) w A0_3 l0_3.length l0_3) (hc0_3 : l0_3.length ≤ c0_3)  (h : xr0.f k a0_0 a0_1 l0_2 l0_3  = some r1) :
  Calls Tryd.prog 62 #[.pointer (some ⟨g, 0, none⟩)] w fun e w' => e = .returned (.bool r1) ∧ Below w.heap.size w w' := by
 unfold xr0.f at h; obtain ⟨⟨r1', q1, q2⟩, h1, h2⟩ := oB h; dsimp only at h2; by_cases hq : q1 = a0_0 ∧ q2 = a0_1
 case neg => rw [if_neg hq] at h2; cases h2
 rw [if_pos hq] at h2; obtain rfl := Option.some.inj h2; refine (qs0.atcalls k ⟨g, 0, none⟩ a0_0 a0_1 l0_2 l0_3  _ q1 q2 w w ⟨A0_2, c0_2, A0_3, c0_3, (zi0 hbox 0).trans rfl, (zi0 hbox 1).trans rfl, (zi0 hbox 2).trans rfl, (zi0 hbox 3).trans rfl, hr0_2, hr0_3⟩ (Below.refl _ _)  h1).mono ?_; rintro e w' ⟨he, hi, hb, hk⟩; exact ⟨he, hb⟩
def yu0.f (k : Nat) (a0 : Int) (a1 : Int) : Option (Int) := (zt0.f k a1).bind fun t128 => (if t128 = 0 then (none) else (some (Int.tmod (wrap64 (Int.tdiv a0 t128)) 3)))
theorem yu0.mono : ∀ a0 a1 k, LeO (yu0.f k a0 a1) (yu0.f (k + 1) a0 a1) := by
 intro a0 a1 k; unfold yu0.f
 repeat' first
   | (with_reducible exact zt0.mono _ _)
   | (with_reducible exact LeO.refl _)
   | (with_reducible exact LeO.none _)
   | (with_reducible refine LeO.ite ?_ ?_)
   | (with_reducible refine LeO.bind ?_ (fun _ => ?_))
   | exact zt0.mono _ _
   | exact LeO.none _
   | refine LeO.ite ?_ ?_
   | refine LeO.bind ?_ (fun _ => ?_)
theorem yu0.calls (k : Nat) (a0 : Int) (a1 : Int) (r : Int) (w : World) (h : yu0.f k a0 a1 = some r) :
  Calls Tryd.prog 77 #[.int .i64 a0, .int .i64 a1] w fun e w' => e = .returned (.int .i64 r) ∧ Drawn0 w w' := by
 have H : ((zt0.f k a1).bind fun t128 => (if t128 = 0 then (none) else (some (Int.tmod (wrap64 (Int.tdiv a0 t128)) 3)))) = some r := h; clear h; obtain ⟨t128, A30, H⟩ := oB H; replace H : (if t128 = 0 then (none) else (some (Int.tmod (wrap64 (Int.tdiv a0 t128)) 3))) = some r := H; have A3 := am A30; clear A30; by_cases c4 : t128 = 0
 ·rw [if_pos c4] at H; exact absurd H (by simp)
 ·rw [if_neg c4] at H; have c4b0 : (t128 == 0) = false := beq_eq_false_iff_ne.mpr c4; have c4b1 : (t128 != 0) = true := bne_iff_ne.mpr c4; obtain rfl := Option.some.inj H; go_enter Tryd.func77, Tryd.ntmps77
  go_wp2_with (first | ((with_reducible refine zu0 (f := 123) rfl ?_); refine goesLA (some 7) Tryd.func123 #[.int .i64 a1] rfl rfl rfl (h := ?_); (with_reducible refine (zt0.calls k a1 t128 _ A3.out).mono ?_); rintro e w' ⟨rfl, ⟨nd, rfl⟩⟩; refine ⟨_, rfl, ?_⟩))
  go_ret; exact ⟨tF, tD⟩
def yb0.l0 (k : Nat) (c : Int) : Nat → Nat → Int → Option Int
 | 0, _, e => some e
 | m + 1, t, e => (yu0.f k c (t : Int)).bind fun d => if d = 2 then yb0.l0 k c m (t + 1) (bits .or .i64 e (wrap64 (2 ^ t))) else if bits .and .i64 (e / 2 ^ t) 1 = 1 then some (-1) else yb0.l0 k c m (t + 1) e
def yb0.f (k : Nat) (a0 : Int) (a1 : Int) (a2 : Int) : Option (Int) := if 0 ≤ a0 ∧ a0 ≤ 3 then yb0.l0 k a2 a0.toNat 0 a1 else none
theorem yb0.mono_l : ∀ k y0 y1 y2 y3, LeO (yb0.l0 k y0 y1 y2 y3) (yb0.l0 (k + 1) y0 y1 y2 y3) := by
 intro k y0 y1
 induction y1 with
 | zero => intro y2 y3; exact LeO.refl _
 | succ m ih =>
  intro y2 y3; simp only [yb0.l0]; refine LeO.bind (yu0.mono _ _ _) (fun d => ?_); refine LeO.ite (ih _ _) (LeO.ite (LeO.refl _) (ih _ _))
theorem yb0.mono : ∀ a0 a1 a2 k, LeO (yb0.f k a0 a1 a2) (yb0.f (k + 1) a0 a1 a2) := by
 intro a0 a1 a2 k; unfold yb0.f; exact LeO.ite (yb0.mono_l _ _ _ _ _) (LeO.refl _)
theorem yb0.calls (k : Nat) (a0 : Int) (a1 : Int) (a2 : Int) (r : Int) (w : World) (h : yb0.f k a0 a1 a2 = some r) :
  Calls Tryd.prog 136 #[.int .i64 a0, .int .i64 a1, .int .i64 a2] w fun e w' => e = .returned (.int .i64 r) ∧ Drawn0 w w' := by
 unfold yb0.f at h; by_cases h0 : 0 ≤ a0 ∧ a0 ≤ 3
 ·rw [if_pos h0] at h; obtain ⟨n, rfl⟩ : ∃ n : Nat, a0 = (n : Int) := ⟨a0.toNat, by omega⟩; (have hn : n ≤ 3 := by omega); have H := am (show yb0.l0 k a2 n 0 a1 = some r by simpa using h); clear h h0; go_enter Tryd.func136, Tryd.ntmps136; go_wp2
  go_loopg [1, 7] n (fun kq v1 v7 w' => ∃ (e : Int) (t : Nat), v1 = .int .i64 e ∧ v7 = .int .i64 (t : Int) ∧ Aside0 (yb0.l0 k a2 kq t e = some r) ∧ Aside0 (t + kq = n) ∧ Drawn0 w w')
  case atStart => exact ⟨a1, 0, rfl, by simp, H, ⟨by omega⟩, tD⟩
  case round =>
   clear H; obtain ⟨e, t, rfl, rfl, H, HK, ⟨m1, rfl⟩⟩ := hrel
   cases gk with
   | zero =>
    (have ht : t = n := by have := HK.out; omega); subst ht; obtain rfl : e = r := Option.some.inj H.out; have c1 : decide ((t : Int) < (t : Int)) = false := decide_eq_false (by omega); have c2 : decide (t < t) = false := decide_eq_false (by omega); clear H HK; go_wp2; go_ret; exact ⟨rfl, tD⟩
   | succ k1 =>
    (have ht : t < n := by have := HK.out; omega); have c1 : decide ((t : Int) < (n : Int)) = true := decide_eq_true (by omega); have c2 : decide (t < n) = true := decide_eq_true (by omega); have h1 := H.out; rw [yb0.l0] at h1; obtain ⟨d, hd, h2⟩ := oB h1; have HD := am hd; clear h1 H hd; (have ht3 : t < 3 := by omega); by_cases e2 : d = 2
    ·rw [if_pos e2] at h2; subst e2; have H2 := am h2; clear h2
     go_wp2_with (first | (go_at_call 77; (with_reducible refine (yu0.calls k a2 (t : Int) 2 _ HD.out).mono ?_); rintro e_ w5 ⟨rfl, ⟨m5, rfl⟩⟩))
     go_roundg k1
     case measure => omega
     case rel => exact ⟨_, t + 1, rfl, by go_num, H2, ⟨by have := HK.out; omega⟩, tD⟩
    ·rw [if_neg e2] at h2; (have e21 : (d == 2) = false := by simpa using e2); (have e22 : decide (d = 2) = false := by simpa using e2); by_cases e3 : bits .and .i64 (e / 2 ^ t) 1 = 1
     ·rw [if_pos e3] at h2; obtain rfl : -1 = r := Option.some.inj h2; (have e31 : (bits .and .i64 (e / 2 ^ t) 1 == 1) = true := by simpa using e3); clear h2
      go_wp2_with (first | (go_at_call 77; (with_reducible refine (yu0.calls k a2 (t : Int) d _ HD.out).mono ?_); rintro e_ w5 ⟨rfl, ⟨m5, rfl⟩⟩))
      go_ret; exact ⟨rfl, tD⟩
     ·rw [if_neg e3] at h2; (have e31 : (bits .and .i64 (e / 2 ^ t) 1 == 1) = false := by simpa using e3); have H2 := am h2; have E2 := am e2; have E3 := am e3; clear h2 e2 e3
      go_wp2_with (first | (go_at_call 77; (with_reducible refine (yu0.calls k a2 (t : Int) d _ HD.out).mono ?_); rintro e_ w5 ⟨rfl, ⟨m5, rfl⟩⟩))
      go_roundg k1
      case measure => omega
      case rel => exact ⟨e, t + 1, rfl, by go_num, H2, ⟨by have := HK.out; omega⟩, tD⟩
 ·rw [if_neg h0] at h; cases h
/-- The state of 'grow': m, ids (of lm), the result's place, list, m.accept, m.next. -/
def GI (w W : World) (tapes : Int) (own : Nat → Nat) (v14 : Value) (l lm : List Int) (va : Value) (bs : List Bool) (vr : Value) (rs : List (List Int)) : Prop :=
 (W.heap[w.heap.size + 1]? = some (.cells #[.int .i64 tapes, .int .i64 0, va, vr] 64 (0, 0)) ∧ own (w.heap.size + 1) = 4) ∧
 (W.ownsMap Tryd.prog 3 (plainElem Tryd.prog 3) (w.heap.size + 2) lm.length (idsD (Lit.int .i64) lm) ∧ own (w.heap.size + 2) = 5) ∧
 (W.heap[w.heap.size]? = some (.cells #[.int .i64 0, .int .i64 0, .slice none 0 0, .slice none 0 0] 64 (0, 0)) ∧ own w.heap.size = 6) ∧
 (Kd.int .i64).R 3 W w.heap.size (fun k => own k = 1) v14 l ∧ Kd.bool.R 4 W w.heap.size (fun k => own k = 2) va bs ∧
 Kd.S (Kd.slice 3 (Kd.int .i64)) 81 W w.heap.size (fun k => own k = 3) vr rs ∧
 Below w.heap.size w W ∧ lm.Nodup ∧ (∀ x ∈ lm, inI64 x = true) ∧ lm.length ≤ 1900000
section
variable {w W W1 : World} {tapes : Int} {own : Nat → Nat} {v14 : Value} {l lm : List Int} {va : Value} {bs : List Bool} {vr : Value} {rs : List (List Int)}
theorem GI.below (h : GI w W tapes own v14 l lm va bs vr rs) (hb : Below W.heap.size W W1) : GI w W1 tapes own v14 l lm va bs vr rs := by
 obtain ⟨⟨h1, h2⟩, ⟨h3, h4⟩, ⟨h5, h6⟩, h7, h8, h9, h10, h11⟩ := h; exact ⟨⟨ze0 h1 hb, h2⟩, ⟨yh1 h3 hb, h4⟩, ⟨ze0 h5 hb, h6⟩, Kd.yv0 h7 hb, Kd.yv0 h8 hb, Kd.jp0 h9 hb, zj0 h10 h10.size hb, h11⟩
/-- Another row (number t, none of these) was written. -/
theorem GI.other (h : GI w W tapes own v14 l lm va bs vr rs) {row : Option Nat} {t : Nat} (hg : W.grownBy W1 row) (hr : ∀ k, row = some k → retag own W.heap.size t k = t) (hb : Below w.heap.size w W1) (ht : 6 < t) : GI w W1 tapes (retag own W.heap.size t) v14 l lm va bs vr rs := by
 obtain ⟨h1, h3, h5, h7, h8, h9, h10, h11⟩ := h; exact ⟨yk0 h1 hg hr (by omega), xt0 h3 hg hr (by omega), yk0 h5 hg hr (by omega), yy0 h7 hg hr (by omega), yy0 h8 hg hr (by omega), ja0 h9 hg hr (by omega), hb, h11⟩
/-- A new state was put into the map. -/
theorem GI.put (h : GI w W tapes own v14 l l va bs vr rs) {x : Int} (hx : x ∉ l) (hi : inI64 x = true) (hl : l.length < 1900000) (hm : W1.ownsMap Tryd.prog 3 (plainElem Tryd.prog 3) (w.heap.size + 2) (l.length + 1) (idsD (Lit.int .i64) (l ++ [x]))) (hg : W.grownBy W1 (some (w.heap.size + 2))) :
  GI w W1 tapes (retag own W.heap.size 5) v14 l (l ++ [x]) va bs vr rs ∧ ∀ k, some (w.heap.size + 2) = some k → retag own W.heap.size 5 k = 5 := by
 obtain ⟨h1, h3, h5, h7, h8, h9, h10, hn, hin, hlen⟩ := h; (have e : retag own W.heap.size 5 (w.heap.size + 2) = 5 := by rw [xj0 h3.1.lt]; exact h3.2)
 have hr : ∀ k, some (w.heap.size + 2) = some k → retag own W.heap.size 5 k = 5 := by
  intro k hk; injection hk with hk; subst hk; exact e
 refine ⟨⟨yk0 h1 hg hr (by omega), ⟨by simpa using hm, e⟩, yk0 h5 hg hr (by omega), yy0 h7 hg hr (by omega), yy0 h8 hg hr (by omega), ja0 h9 hg hr (by omega), h10.grown hg h10.size (fun k hk => by injection hk with hk; omega), ?_, ?_, by simp; omega⟩, hr⟩
 ·refine List.nodup_append.2 ⟨hn, by simp, fun a ha b hb => ?_⟩; simp at hb; subst hb; exact fun he => hx (he ▸ ha)
 ·intro y hy
  rcases List.mem_append.1 hy with hy | hy
  ·exact hin y hy
  ·simp at hy; subst hy; exact hi
/-- .. and behind the list. -/
theorem GI.push (h : GI w W tapes own v14 l lm va bs vr rs) {v1 : Value} {l1 : List Int} (hR : (Kd.int .i64).R 3 W1 w.heap.size (fun k => retag own W.heap.size 1 k = 1) v1 l1) (hb : Below w.heap.size w W1) (hg : W.grownBy W1 v14.ownBlock) : GI w W1 tapes (retag own W.heap.size 1) v1 l1 lm va bs vr rs := by
 obtain ⟨h1, h3, h5, h7, h8, h9, h10, h11⟩ := h; have hr := R_rowT h7; exact ⟨yk0 h1 hg hr (by omega), xt0 h3 hg hr (by omega), yk0 h5 hg hr (by omega), hR, yy0 h8 hg hr (by omega), ja0 h9 hg hr (by omega), hb, h11⟩
/-- m.accept was appended to (not yet stored back): m's own block, still. -/
theorem GI.box (h : GI w W tapes own v14 l lm va bs vr rs) (hg : W.grownBy W1 va.ownBlock) : W1.heap[w.heap.size + 1]? = some (.cells #[.int .i64 tapes, .int .i64 0, va, vr] 64 (0, 0)) := by
 obtain ⟨h1, h3, h5, h7, h8, h9, h10, h11⟩ := h; exact (yk0 h1 hg (R_rowT h8) (by omega)).1
theorem GI.acc (h : GI w W tapes own v14 l lm va bs vr rs) {v1 : Value} {bs1 : List Bool} (hR : Kd.bool.R 4 W1 w.heap.size (fun k => retag own W.heap.size 2 k = 2) v1 bs1) (hb : Below w.heap.size w W1) (hg : W.grownBy W1 va.ownBlock) : GI w (W1.setCell ⟨w.heap.size + 1, 2, none⟩ v1) tapes (retag own W.heap.size 2) v14 l lm v1 bs1 vr rs := by
 obtain ⟨h1, h3, h5, h7, h8, h9, h10, h11⟩ := h; have hr := R_rowT h8; have b1 := yk0 h1 hg hr (by omega); have b0 := yk0 h5 hg hr (by omega); have bm := xt0 h3 hg hr (by omega); have ne : ∀ s k, s ≠ 4 → retag own W.heap.size 2 k = s → k ≠ w.heap.size + 1 := fun s k hs hk he => hs (by rw [← hk, he, b1.2]); refine ⟨⟨by simpa using xu0 b1.1 2 v1, b1.2⟩, ⟨bm.1.setCell (by simp) _, bm.2⟩, ⟨yo0 b0.1 (by simp) _, b0.2⟩, Kd.R_far (p := ⟨w.heap.size + 1, 2, none⟩) (yy0 h7 hg hr (by omega)) (fun k hk => ne 1 k (by omega) hk) _, Kd.R_far (p := ⟨w.heap.size + 1, 2, none⟩) hR (fun k hk => ne 2 k (by omega) hk) _, Kd.S_far (p := ⟨w.heap.size + 1, 2, none⟩) (ja0 h9 hg hr (by omega)) (fun k hk => ne 3 k (by omega) hk) _, hb.setCell (by simp) _, h11⟩
/-- The row was put behind m.next, and m.next stored back. -/
def merge73 (f : Nat → Nat) : Nat → Nat := fun k => if f k = 7 then 3 else f k
theorem GI.boxN (h : GI w W tapes own v14 l lm va bs vr rs) (hg : W.grownBy W1 vr.ownBlock) : W1.heap[w.heap.size + 1]? = some (.cells #[.int .i64 tapes, .int .i64 0, va, vr] 64 (0, 0)) := by
 obtain ⟨h1, h3, h5, h7, h8, h9, h10, h11⟩ := h; exact (yk0 h1 hg (S_rowT h9) (by omega)).1
theorem GI.nxt (h : GI w W tapes own v14 l lm va bs vr rs) {v1 : Value} {rs1 : List (List Int)} (hR : Kd.S (Kd.slice 3 (Kd.int .i64)) 81 W1 w.heap.size (fun k => retag own W.heap.size 3 k = 3 ∨ retag own W.heap.size 3 k = 7) v1 rs1) (hb : Below w.heap.size w W1) (hg : W.grownBy W1 vr.ownBlock) : GI w (W1.setCell ⟨w.heap.size + 1, 3, none⟩ v1) tapes (merge73 (retag own W.heap.size 3)) v14 l lm va bs v1 rs1 := by
 obtain ⟨h1, h3, h5, h7, h8, h9, h10, h11⟩ := h; have hr := S_rowT h9; have b1 := yk0 h1 hg hr (by omega); have b0 := yk0 h5 hg hr (by omega); have bm := xt0 h3 hg hr (by omega); have ne : ∀ s k, s ≠ 4 → retag own W.heap.size 3 k = s → k ≠ w.heap.size + 1 := fun s k hs hk he => hs (by rw [← hk, he, b1.2]); (have mg : ∀ s k, s ≠ 7 → retag own W.heap.size 3 k = s → merge73 (retag own W.heap.size 3) k = s := fun s k hs hk => by simp [merge73, hk, hs]); refine ⟨⟨by simpa using xu0 b1.1 3 v1, mg 4 _ (by omega) b1.2⟩, ⟨bm.1.setCell (by simp) _, mg 5 _ (by omega) bm.2⟩, ⟨yo0 b0.1 (by simp) _, mg 6 _ (by omega) b0.2⟩, Kd.R_mono (Kd.R_far (p := ⟨w.heap.size + 1, 3, none⟩) (yy0 h7 hg hr (by omega)) (fun k hk => ne 1 k (by omega) hk) _) (fun k hk => mg 1 k (by omega) hk), Kd.R_mono (Kd.R_far (p := ⟨w.heap.size + 1, 3, none⟩) (yy0 h8 hg hr (by omega)) (fun k hk => ne 2 k (by omega) hk) _) (fun k hk => mg 2 k (by omega) hk), Kd.S_mono (Kd.S_far (p := ⟨w.heap.size + 1, 3, none⟩) hR (fun k hk => hk.elim (ne 3 k (by omega)) (ne 7 k (by omega))) _) (fun k hk => hk.elim (fun h => mg 3 k (by omega) h) (fun h => by simp [merge73, h])), hb.setCell (by simp) _, h11⟩
end
theorem infoG81 : (Tryd.prog.info? 81).map (fun i => (i.zero, i.size, i.bytes)) = some (some (.slice none 0 0), 1, 24) := by kernel_rfl
theorem jv0 (w : World) : (zeroValue 3).run Tryd.prog w = .ok (.int .i64 0) w := by kernel_rfl
theorem xu2 (a b : Int) (h : Lit.int .i64 a = Lit.int .i64 b) : a = b := by injection h
theorem xt2 (a : Int) : WideAt.IsKeyLit (Lit.int .i64 a) := trivial
def GrowPost (w : World) (tapes : Int) (bs : List Bool) (rs : List (List Int)) (e : Ending) (w' : World) : Prop :=
 ∃ va vr, e = .returned (.tuple #[.agg #[.int .i64 tapes, .int .i64 0, va, vr], .bool true]) ∧ Kd.bool.R 4 w' w.heap.size (fun _ => True) va bs ∧ Kd.S (Kd.slice 3 (Kd.int .i64)) 81 w' w.heap.size (fun _ => True) vr rs ∧ Below w.heap.size w w'
theorem gi_at {w W : World} {tapes : Int} {own : Nat → Nat} {v14 : Value} {l lm : List Int} {va : Value} {bs : List Bool} {vr : Value} {rs : List (List Int)} (h : GI w W tapes own v14 l lm va bs vr rs) {i : Nat} {k : Int} (hk : l[i]? = some k) :
  ∃ g c, v14 = .slice (some ⟨g, 0, none⟩) l.length c ∧ W.cell? ⟨g, i, none⟩ = some (.int .i64 k) := by
 obtain ⟨_, _, _, h7, _⟩ := h; have hi : i < l.length := (List.getElem?_eq_some_iff.1 hk).1; obtain ⟨g, cap, hv, _⟩ := Kd.R_form h7 (by omega); subst hv; obtain ⟨_, _, hC⟩ := Kd.yg0 h7; obtain ⟨ad, e, hx⟩ := Kd.at_int hC (i : Int) (by omega) (by omega); injection e with e; subst e; refine ⟨g, cap, rfl, ?_⟩; rw [add_plain] at hx; simp only [Int.toNat_natCast] at hx; rw [hx]; simp [rd, List.getD_eq_getElem?_getD, hk]
theorem jp2 {w w1 : World} {tapes start : Int} (hs : inI64 start = true)
  (hown : w1.ownsMap Tryd.prog 3 (plainElem Tryd.prog 3) (w.heap.size + 1 + 1) (0 + 1) (DataW.put (.map [] : DataW Unit) (.int .i64 start) (.lit (.int .i64 0))))
  (hg : World.grownBy (((w.alloc (.cells #[.int .i64 0, .int .i64 0, .slice none 0 0, .slice none 0 0] 64)).alloc (.cells #[.int .i64 tapes, .int .i64 0, .slice none 0 0, .slice none 0 0] 64)).alloc (.map #[] 0)) w1 (some (w.heap.size + 1 + 1))) :
  GI w (w1.alloc (.cells #[.int .i64 start] 3)) tapes (fun k => if k = w.heap.size + 1 then 4 else if k = w.heap.size + 2 then 5 else if k = w.heap.size then 6 else 1) (.slice (some ⟨w1.heap.size, 0, none⟩) 1 1) [start] [start] (.slice none 0 0) [] (.slice none 0 0) [] := by
 have hsz : w.heap.size + 3 ≤ w1.heap.size := by have := hg.size; simp at this; omega
 have hB : Below w.heap.size w w1 := by
  refine Below.trans ((((Below.refl _ w).alloc (Nat.le_refl _) _).alloc (by simp) _).alloc (by simp; omega) _) ⟨hg.os, hg.tape, hg.output, hg.size, fun k hk => hg.block k (by simp; omega) (by simp; omega)⟩
 have hB2 := hB.alloc (by omega) (.cells #[.int .i64 start] 3)
 have h1 : w1.heap[w.heap.size + 1]? = some (.cells #[.int .i64 tapes, .int .i64 0, .slice none 0 0, .slice none 0 0] 64 (0, 0)) := by
  rw [hg.block _ (by simp) (by simp)]; exact ya0 (by have := ym0 (w.alloc (.cells #[.int .i64 0, .int .i64 0, .slice none 0 0, .slice none 0 0] 64)) (.cells #[.int .i64 tapes, .int .i64 0, .slice none 0 0, .slice none 0 0] 64); simpa using this) _
 have h0 : w1.heap[w.heap.size]? = some (.cells #[.int .i64 0, .int .i64 0, .slice none 0 0, .slice none 0 0] 64 (0, 0)) := by
  rw [hg.block _ (by simp; omega) (by simp; omega)]; exact ya0 (ya0 (ym0 w _) _) _
 refine ⟨⟨ya0 h1 _, by simp⟩, ⟨?_, by simp⟩, ⟨ya0 h0 _, by simp⟩, ?_, Kd.R_nil _ _ _ _ _, Kd.S_nil _ _ _ _ _, hB2, by simp, by simpa using hs, by simp⟩
 ·have := hown.alloc (.cells #[.int .i64 start] 3)
  simpa [idsD] using this
 ·exact R_one (d := Kd.int .i64) w1 start [.int .i64 start] _ rfl rfl (by omega) (by show (if w1.heap.size = _ then _ else _) = 1; rw [if_neg (by omega), if_neg (by omega), if_neg (by omega)])
theorem kd0 {acc : Int → Option Bool} {next : Int → Int → Option Int} {W : Nat} {na nn : FuncId} {ca cn : Array Value} {tapes start : Int} {kw f : Nat} {as1 : List Bool} {rs1 : List (List Int)} (w : World)
  (hA : CloOK Tryd.prog w na ca (fun x : Int => #[.int .i64 x]) acc Value.bool) (hN : CloOK Tryd.prog w nn cn (fun x : Int × Int => #[.int .i64 x.1, .int .i64 x.2]) (fun x => next x.1 x.2) (Value.int .i64))
  (hw : zr0.f kw tapes = some (W : Int)) (hW : W ≤ 1000) (hs : inI64 start = true) (h : growL inI64 acc next W f [start] [] [] = some (as1, rs1)) :
  Calls Tryd.prog 79 #[.int .i64 tapes, .int .i64 start, .int .i64 0, .func (.func na) #[] ca, .func (.func nn) #[] cn] w (GrowPost w tapes as1 rs1) := by
 have HA := am hA; have HN := am hN; have HW := am hw; have HH := am h; have HS := am hs; clear hA hN hw h hs; have hmm := @run_makeMap Tryd.prog; have hown0 : (((w.alloc (.cells #[.int .i64 0, .int .i64 0, .slice none 0 0, .slice none 0 0] 64)).alloc (.cells #[.int .i64 tapes, .int .i64 0, .slice none 0 0, .slice none 0 0] 64)).alloc (.map #[] 0)).ownsMap Tryd.prog 3 (plainElem Tryd.prog 3) (w.heap.size + 1 + 1) 0 (.map [] : DataW Unit) := jy1 _ (by simp); obtain ⟨w1, hrun, hown1, hg1⟩ := hown0.update (Maps.int_keyed Tryd.underlying3) Tryd.underlying108 (by unfold maxLen; omega) (key := .int .i64 start) (val := .int .i64 0) (Maps.keyOf_int_mk Tryd.underlying3 (jz0 HS.out)) (plainElem_int Tryd.underlying3 (by decide)); have HO1 := am hown1; have HG1 := am hg1; clear hown0 hown1 hg1; obtain ⟨fa, ha1, ha2, ha3⟩ := HA.out.fn; obtain ⟨fb, hb1, hb2, hb3⟩ := HN.out.fn; have hea := fun args W' => js0 (P := Tryd.prog) ha1 ha2 ha3 args W'; have heb := fun args W' => js0 (P := Tryd.prog) hb1 hb2 hb3 args W'; clear ha1 ha2 ha3 hb1 hb2 hb3; go_enter Tryd.func79, Tryd.ntmps79; go_wp2; have HI := am (jp2 HS.out HO1.out HG1.out); clear HO1 HG1 hmm hrun
 generalize w1.alloc _ = W0 at HI ⊢
 generalize (Value.slice (some { block := w1.heap.size, off := 0 }) 1 1) = v0 at HI ⊢
 go_loopg [14, 15] f (fun kq v14 v15 w' => ∃ (own : Nat → Nat) (l : List Int) (va : Value) (bs : List Bool) (vr : Value) (rs : List (List Int)), v15 = .int .i64 (bs.length : Int) ∧ Aside0 (GI w w' tapes own v14 l l va bs vr rs) ∧ Aside0 (growL inI64 acc next W kq l bs rs = some (as1, rs1)) ∧ Aside0 (rs.length = bs.length))
 case atStart => exact ⟨_, [start], .slice none 0 0, [], .slice none 0 0, [], by simp, HI, HH, ⟨by simp⟩⟩
 case round =>
  clear HI HH; obtain ⟨own, l, va, bs, vr, rs, rfl, HI, HL, HRL⟩ := hrel
  cases gk with
  | zero => exact absurd HL.out (by simp [growL])
  | succ k1 =>
   have H := HL.out; clear HL; simp only [growL] at H
   cases hk : l[bs.length]? with
   | none =>
    rw [hk] at H; obtain ⟨rfl, rfl⟩ := Prod.mk.inj (Option.some.inj H); have hle : l.length ≤ bs.length := List.getElem?_eq_none_iff.1 hk; clear H hk; obtain ⟨⟨b1, -⟩, -, ⟨b0, -⟩, r14, rva, rvr, hB, -⟩ := HI.out; obtain ⟨A14, c14, rfl⟩ := Kd.zm0 r14; obtain ⟨Aa, cva, rfl⟩ := Kd.zm0 rva; obtain ⟨An, cvr, rfl⟩ := Kd.yp0 rvr; have c1 : decide ((bs.length : Int) < (l.length : Int)) = false := decide_eq_false (by omega); have c2 : decide (bs.length < l.length) = false := decide_eq_false (by omega); have RA := am rva; have RN := am rvr; have HB := am hB; have B0 := am b0; obtain ⟨m0, m1, m2, m3⟩ := bc4 b1; obtain ⟨n0, n1, n2, n3⟩ := bc4 b0; obtain ⟨f0, f1, f2, f3⟩ := bf4 b0; clear r14 rva rvr hB b1 b0 HI hle; go_wp2; refine bodyPost_ret (v := .tuple #[.agg #[.int .i64 tapes, .int .i64 0, .slice Aa bs.length cva, .slice An rs.length cvr], .bool true]) (by simp [results, Tryd.results79, go_sem, n0, n1, n2, n3]) rfl ⟨_, _, rfl, ?_, ?_, ?_⟩
    ·exact Kd.R_mono (R_set4 RA.out B0.out (by decide) _ _ _ _) (fun _ _ => trivial)
    ·exact Kd.S_mono (S_set4 RN.out B0.out (by decide) _ _ _ _) (fun _ _ => trivial)
    ·exact xy0 HB.out (Nat.le_refl _) _ _ _ _
   | some k =>
    rw [hk] at H; simp only [] at H; obtain ⟨⟨l1, row1⟩, hrow, H⟩ := oB H; obtain ⟨a1, hacc, H⟩ := oB H; obtain ⟨g, c14, rfl, hcell⟩ := gi_at HI.out hk; have hlt : bs.length < l.length := (List.getElem?_eq_some_iff.1 hk).1; have c1 : decide ((bs.length : Int) < (l.length : Int)) = true := decide_eq_true (by omega); have c2 : decide (bs.length < l.length) = true := decide_eq_true (by omega); have HR := am hrow; have HC := am hacc; have HG := am H; clear H hrow hacc hk; go_wp2
    go_loopg [14, 17, 18] W (fun kq v14 v17 v18 w' => ∃ (own : Nat → Nat) (l' : List Int) (row : List Int) (c : Nat), v18 = .int .i64 (c : Int) ∧ Aside0 (c + kq = W) ∧ Aside0 (GI w w' tapes own v14 l' l' va bs vr rs ∧ (Kd.int .i64).R 3 w' w.heap.size (fun k => own k = 7) v17 row) ∧ Aside0 (growRow inI64 (next k) kq (c : Int) l' row = some (l1, row1)) ∧ Aside0 (row.length = c ∧ bs.length ≤ l'.length ∧ bs.length < l'.length))
    case atStart => exact ⟨own, l, [], 0, by simp, ⟨by omega⟩, ⟨HI.out, Kd.R_nil _ _ _ _ _⟩, ⟨HR.out⟩, ⟨rfl, by omega, hlt⟩⟩
    case round =>
     clear HI HR hcell c1 c2 hlt; obtain ⟨own, l', row, c, rfl, HCW, HI2, HR2, HN2⟩ := hrel
     cases gk with
     | zero =>
      have e := HR2.out; simp only [growRow] at e; obtain ⟨rfl, rfl⟩ := Prod.mk.inj (Option.some.inj e); have hcw := HCW.out; have c1 : decide ((c : Int) < (W : Int)) = false := decide_eq_false (by omega); have c2 : decide (c < W) = false := decide_eq_false (by omega); clear e HR2 hcw
      go_wp2_with (first | (go_at_call 118; (with_reducible refine (zr0.calls kw tapes (W : Int) _ HW.out).mono ?_); rintro e w' ⟨rfl, ⟨nd, rfl⟩⟩))
      have HI3 := am ((HI2.out.1.below (zg0 (Below.refl _ _) nd)).below (xb0 (Below.refl _ _))); have HR3 := am (Kd.yv0 (Kd.yv0 HI2.out.2 (zg0 (Below.refl _ _) nd)) (xb0 (Below.refl _ _))); obtain ⟨Aa, cva, hva⟩ := Kd.zm0 HI3.out.2.2.2.2.1; subst hva; have hS : (wr.drewN nd).drew.cell? ⟨w.heap.size + 1, 2, none⟩ = some (.slice Aa bs.length cva) := (zi0 HI3.out.1.1 2).trans rfl; clear HI2; refine start_ (n := 9) (S := fun w' => w'.cell? ⟨w.heap.size + 1, 2, none⟩ = some (.slice Aa bs.length cva)) (ds := [8]) #[false, false, false, false, false, false, false, false, false] (by kernel_rfl) rfl rfl hS (fun hHeld => ?_)
      generalize (wr.drewN nd).drew = w3 at HI3 HR3 hS hHeld ⊢
      refine pureA 0 (some 79) (bl 9 1) rfl rfl (h := ?_); refine take_ (i := 1) (N := some 80) (v := ?_) (a' := ?_) #[true, true, false, false, false, false, false, false, false] rfl rfl (by kernel_rfl) (fun _ _ _ h => h) (Or.inl ⟨by rfl, ?_⟩) hHeld ?_ ?_; rotate_left
      ·intro w' s0; go_simp; (with_reducible rfl)
      rotate_left
      ·simp only [Act.put, List.setIfInBounds_toArray, List.set_cons_zero, List.set_cons_succ]; rfl
      refine pureA 2 (some 81) (bl 9 7) rfl rfl (h := ?_); refine pureA 3 (some 82) (bl 9 15) rfl rfl (h := ?_); refine oneA 4 (some 83) (bl 9 31) rfl rfl (fun K hK => ?_); obtain ⟨fa, ha1, ha2, ha3⟩ := HA.out.fn; refine call_ na (#[.int .i64 k] ++ ca) (by rfl) rfl (kx1 ha1 ha2 ha3 _ rfl rfl (by (try simp only [List.map_toArray, List.map_cons, List.map_nil]); rfl)) ?_; refine (HA.out.run k a1 w3 HI3.out.2.2.2.2.2.2.1 HC.out).mono ?_; rintro e w4 ⟨rfl, hb4⟩; refine ⟨_, rfl, ?_⟩; have HI4 := am (HI3.out.below hb4); have HR4 := am (Kd.yv0 HR3.out hb4); clear HI3 HR3 hS hHeld hb4; refine hK.out _ _ ((zi0 HI4.out.1.1 2).trans rfl) (fun hHeld => ?_); clear hK K; refine normA (h := ?_); refine oneA 5 (some 84) (bl 9 63) rfl rfl (fun K hK => ?_); refine value_ (v := .slice (some ⟨w4.heap.size, 0, none⟩) 1 1) (w1 := w4.alloc (.cells #[.bool a1] 4)) (by rfl) rfl ?_ ?_
      ·go_simp
      refine hK.out _ _ ((zi0 (ya0 HI4.out.1.1 _) 2).trans rfl) (fun hHeld => ?_); clear hK K; refine normA (h := ?_); refine oneA 6 (some 85) (bl 9 127) rfl rfl (fun K hK => ?_); refine Kd.qf0 Kd.bool (w0 := w) w.heap.size (by rfl) (.tmp 80) (.tmp 84) 22 4 (.bool false) 1 rfl Tryd.underlying22 info4 rfl (by decide) (by omega) (.slice Aa bs.length cva) bs a1 [.bool a1] (fun k => retag own w4.heap.size 2 k = 2) (fun _ => False) rfl rfl rfl (fun _ hk => hk.elim) (fun _ hk => yj0 hk) (R_tag HI4.out.2.2.2.2.1 2) HI4.out.2.2.2.2.2.2.1 HI4.out.2.2.2.2.2.2.1.size (by have := HN2.out.2.1; have := HI4.out.2.2.2.2.2.2.2.2.2; omega) ?_; intro v5 w5 ho hb hg hat; obtain ⟨A5, c5, hv5⟩ := Kd.zm0 ho; subst hv5; have b5 := GI.box HI4.out hg; have HI5 := am (GI.acc HI4.out ho hb hg); have HR5 := am (Kd.R_far (p := ⟨w.heap.size + 1, 2, none⟩) (yy0 (t := 2) HR4.out hg (R_rowT HI4.out.2.2.2.2.1) (by omega)) (fun k hk he => by have := HI5.out.1.2; rw [he] at hk; simp only at hk; omega) (.slice A5 (bs ++ [a1]).length c5)); obtain ⟨-, -, m5, -⟩ := bc4 b5; have f5 := za0 b5 2; clear HI4 HR4 ho hb hg hat b5; refine hK.out _ _ m5 (fun hHeld => ?_); clear hK K; refine normA (h := ?_); refine oneA 7 (some 86) (bl 9 255) rfl rfl (fun K hK => ?_); refine value_ (v := .pointer (some ⟨w.heap.size + 1, 2, none⟩)) (w1 := w5) (by rfl) rfl ?_ ?_
      ·go_simp
      refine hK.out _ _ m5 (fun hHeld => ?_); clear hK K; refine normA (h := ?_); refine last_ (i := 8) (N := none) (bl 9 511) rfl rfl (by kernel_rfl) (by decide) (fun K hK => ?_); refine skip_ (w1 := w5.setCell ⟨w.heap.size + 1, 2, none⟩ (.slice A5 (bs ++ [a1]).length c5)) (by rfl) rfl ?_ ?_
      ·go_simp
      refine hK.out _ _ ?_; clear hK K; refine done_ (by kernel_rfl) ?_; clear m5 f5 hHeld
      generalize w5.setCell _ _ = w6 at HI5 HR5 ⊢
      obtain ⟨An, cvr, hvr⟩ := Kd.yp0 HI5.out.2.2.2.2.2.1; subst hvr; obtain ⟨Ar, cr, hr17⟩ := Kd.zm0 HR5.out; subst hr17; obtain ⟨-, -, -, m3⟩ := bc4 HI5.out.1.1; (have hrl : row.length < 1000000 := by have := HN2.out.1; have := HCW.out; omega)
      go_wp2_with (first | ((with_reducible refine zx0 (b := .append) (xs := #[.tmp 88, .tmp 90]) rfl ?_); at_builtin; refine Kd.jb0 (Kd.slice 3 (Kd.int .i64)) (w0 := w) w.heap.size rfl (.tmp 88) (.tmp 90) 62 81 (.slice none 0 0) 24 rfl Tryd.underlying62 infoG81 rfl (by decide) (by omega) (.slice An rs.length cvr) rs row [.slice Ar row.length cr] (fun k => retag (retag own w4.heap.size 2) w6.heap.size 3 k = 3 ∨ retag (retag own w4.heap.size 2) w6.heap.size 3 k = 7) (fun k => retag (retag own w4.heap.size 2) w6.heap.size 3 k = 7) rfl rfl ?aP ?aK ?aF ?aO ?aB ?aS ?aL ?_; (case aP => exact ⟨_, rfl, R_tag HR5.out 3⟩); (case aK => intro k hk; exact ⟨Or.inr hk, fun he => by have := S_rowT HI5.out.2.2.2.2.2.1 k he.symm; omega⟩); (case aF => exact (fun _ hk => Or.inl (yj0 hk))); (case aO => exact Kd.S_mono (jo0 HI5.out.2.2.2.2.2.1 3) (fun k hk => ⟨Or.inl hk, by omega⟩)); (case aB => exact HI5.out.2.2.2.2.2.2.1); (case aS => exact HI5.out.2.2.2.2.2.2.1.size); (case aL => have := HN2.out.2.1; have := HI5.out.2.2.2.2.2.2.2.2.2; have := HRL.out; omega); intro v7 w7 ho hb hg hat; obtain ⟨A7, c7, hv7⟩ := Kd.yp0 ho; subst hv7; have b7 := GI.boxN HI5.out hg; have HI6 := am (GI.nxt HI5.out ho hb hg); obtain ⟨-, -, -, m7⟩ := bc4 b7; have f7 := za0 b7 3; clear HI5 HR5 ho hb hg hat b7 m3))
      go_roundg k1
      case measure => omega
      case rel =>
       have q1 := HN2.out.2.1; have q2 := HI6.out.2.2.2.2.2.2.2.2.2; exact ⟨_, l', _, bs ++ [a1], _, rs ++ [row], by rw [show (bs ++ [a1]).length = bs.length + 1 by simp, show wrap64 ((bs.length : Int) + 1) = (bs.length : Int) + 1 by unfold wrap64; omega]; rfl, by have h_ := HI6; rw [show (rs ++ [row]).length = rs.length + 1 by simp] at h_; exact h_, ⟨by have h_ := HG.out; simpa using h_⟩, ⟨by have := HRL.out; simp; omega⟩⟩
     | succ k2 =>
      have H := HR2.out; simp only [growRow] at H; obtain ⟨x, hnx, H⟩ := oB H; have hcw := HCW.out; have c1 : decide ((c : Int) < (W : Int)) = true := decide_eq_true (by omega); have c2 : decide (c < W) = true := decide_eq_true (by omega); (have b1 : c < 1000 := by omega); clear hcw HR2; by_cases hg : inI64 x = true
      ·rw [if_pos hg] at H; have HX := am hg; have HNX := am hnx; clear hg hnx; obtain ⟨A14, c14', hv14⟩ := Kd.zm0 HI2.out.1.2.2.2.1; subst hv14; by_cases hm : x ∈ l'
       ·rw [if_pos hm] at H; have HM := am hm; have H' := am H; clear hm H
        go_wp2_with (first | (go_at_call 118; (with_reducible refine (zr0.calls kw tapes (W : Int) _ HW.out).mono ?_); rintro e w' ⟨rfl, ⟨nd, rfl⟩⟩))
        refine (HN.out.run (k, (c : Int)) x _ ?hB HNX.out).mono ?_
        case hB => exact zg0 HI2.out.1.2.2.2.2.2.2.1 _
        rintro e w2 ⟨rfl, hb2⟩; have HI3 := am ((HI2.out.1.below (zg0 (Below.refl _ _) nd)).below hb2); have HR3 := am (Kd.yv0 (Kd.yv0 HI2.out.2 (zg0 (Below.refl _ _) nd)) hb2); clear hb2 HI2
        go_wp2_with (first | (at_lookup; refine xz0 _ rfl _ _ 108 rfl xu2 xt2 (Maps.int_keyed Tryd.underlying3) Tryd.underlying108 Tryd.underlying3 (jv0 _) rfl HI3.out.2.1.1 HI3.out.2.2.2.2.2.2.2.1 _ x rfl (Maps.keyOf_int_mk Tryd.underlying3 (jz0 HX.out)) _ true (if_pos HM.out) (decide_eq_true HM.out) ?_) | ((with_reducible refine zx0 (b := .append) (xs := #[.tmp 75, .tmp 77]) rfl ?_); at_builtin; refine Kd.yz0 (Kd.int .i64) (w0 := w) w.heap.size rfl (.tmp 75) (.tmp 77) 81 3 (.int .i64 0) 8 rfl Tryd.underlying81 info3 rfl (by decide) (by omega) u17 row ((l'.idxOf x : Nat) : Int) [.int .i64 ((l'.idxOf x : Nat) : Int)] (fun k => retag own w2.heap.size 7 k = 7) (fun _ => False) rfl rfl ?aP (fun _ hk => hk.elim) ?aF ?aO ?aB ?aS ?aL ?_; (case aP => exact rfl); (case aB => exact HI3.out.2.2.2.2.2.2.1); (case aF => exact (fun _ hk => yj0 hk)); (case aO => exact R_tag HR3.out 7); (case aS => exact HI3.out.2.2.2.2.2.2.1.size); (case aL => have := HN2.out.1; omega); intro v5 w5 ho hb hg hat; have n0_ := am (GI.other HI3.out hg (R_rowT HR3.out) hb (by omega)); have n1_ := am ho; clear HI3 HR3 ho hb hg hat))
        go_roundg k2
        case measure => omega
        case rel => exact ⟨retag own w2.heap.size 7, l', row ++ [((l'.idxOf x : Nat) : Int)], c + 1, by go_num, ⟨by have := HCW.out; omega⟩, ⟨n0_.out, n1_.out⟩, ⟨by have h_ := H'.out; rwa [show (c : Int) + 1 = ((c + 1 : Nat) : Int) by omega] at h_⟩, ⟨by simp [HN2.out.1], HN2.out.2⟩⟩
       ·rw [if_neg hm] at H; by_cases hl : l'.length < 1900000
        ·rw [if_pos hl] at H; have HM := am hm; have HL2 := am hl; have H' := am H; clear hm H
         go_wp2_with (first | (go_at_call 118; (with_reducible refine (zr0.calls kw tapes (W : Int) _ HW.out).mono ?_); rintro e w' ⟨rfl, ⟨nd, rfl⟩⟩))
         refine (HN.out.run (k, (c : Int)) x _ ?hB HNX.out).mono ?_
         case hB => exact zg0 HI2.out.1.2.2.2.2.2.2.1 _
         rintro e w2 ⟨rfl, hb2⟩; have HI3 := am ((HI2.out.1.below (zg0 (Below.refl _ _) nd)).below hb2); have HR3 := am (Kd.yv0 (Kd.yv0 HI2.out.2 (zg0 (Below.refl _ _) nd)) hb2); clear hb2 HI2
         go_wp2_with (first | (at_lookup; refine xz0 _ rfl _ _ 108 rfl xu2 xt2 (Maps.int_keyed Tryd.underlying3) Tryd.underlying108 Tryd.underlying3 (jv0 _) rfl HI3.out.2.1.1 HI3.out.2.2.2.2.2.2.2.1 _ x rfl (Maps.keyOf_int_mk Tryd.underlying3 (jz0 HX.out)) _ false (if_neg HM.out) (decide_eq_false HM.out) ?_) | (at_mapUpdate; refine jc0 _ rfl _ _ _ 108 rfl (Maps.int_keyed Tryd.underlying3) Tryd.underlying108 Tryd.underlying3 rfl HI3.out.2.1.1 ?uM _ x rfl (Maps.keyOf_int_mk Tryd.underlying3 (jz0 HX.out)) rfl ?uL ?_; (case uM => unfold maxLen; omega); (case uL => omega); intro w3 hown3 hg3; have hq := GI.put HI3.out HM.out HX.out HL2.out hown3 hg3; have HI4 := am hq.1; have HR4 := am (yy0 (t := 5) HR3.out hg3 hq.2 (by omega)); clear HI3 HR3 hq hown3 hg3) | ((with_reducible refine zx0 (b := .append) (xs := #[.tmp 62, .tmp 64]) rfl ?_); at_builtin; refine Kd.yz0 (Kd.int .i64) (w0 := w) w.heap.size rfl (.tmp 62) (.tmp 64) 81 3 (.int .i64 0) 8 rfl Tryd.underlying81 info3 rfl (by decide) (by omega) (.slice A14 l'.length c14') l' x [.int .i64 x] (fun k => retag (retag own w2.heap.size 5) w3.heap.size 1 k = 1) (fun _ => False) rfl rfl ?aP (fun _ hk => hk.elim) ?aF ?aO ?aB ?aS ?aL ?_; (case aP => exact rfl); (case aB => exact HI4.out.2.2.2.2.2.2.1); (case aF => exact (fun _ hk => yj0 hk)); (case aO => exact R_tag HI4.out.2.2.2.1 1); (case aS => exact HI4.out.2.2.2.2.2.2.1.size); (case aL => omega); intro v4 w4 ho hb hg hat; have HI5 := am (GI.push HI4.out ho hb hg); have HR5 := am (yy0 (t := 1) HR4.out hg (R_rowT HI4.out.2.2.2.1) (by omega)); clear HI4 HR4 ho hb hg hat) | ((with_reducible refine zx0 (b := .append) (xs := #[.tmp 75, .tmp 77]) rfl ?_); at_builtin; refine Kd.yz0 (Kd.int .i64) (w0 := w) w.heap.size rfl (.tmp 75) (.tmp 77) 81 3 (.int .i64 0) 8 rfl Tryd.underlying81 info3 rfl (by decide) (by omega) u17 row (l'.length : Int) [.int .i64 (l'.length : Int)] (fun k => retag (retag (retag own w2.heap.size 5) w3.heap.size 1) w4.heap.size 7 k = 7) (fun _ => False) rfl rfl ?aP (fun _ hk => hk.elim) ?aF ?aO ?aB ?aS ?aL ?_; (case aP => exact rfl); (case aB => exact HI5.out.2.2.2.2.2.2.1); (case aF => exact (fun _ hk => yj0 hk)); (case aO => exact R_tag HR5.out 7); (case aS => exact HI5.out.2.2.2.2.2.2.1.size); (case aL => have := HN2.out.1; omega); intro v5 w5 ho hb hg hat; have n0_ := am (GI.other HI5.out hg (R_rowT HR5.out) hb (by omega)); have n1_ := am ho; clear HI5 HR5 ho hb hg hat))
         go_roundg k2
         case measure => omega
         case rel => exact ⟨_, l' ++ [x], row ++ [(l'.length : Int)], c + 1, by go_num, ⟨by have := HCW.out; omega⟩, ⟨n0_.out, n1_.out⟩, ⟨by have h_ := H'.out; rwa [show (c : Int) + 1 = ((c + 1 : Nat) : Int) by omega] at h_⟩, ⟨by simp [HN2.out.1], by have := HN2.out.2; simp; omega⟩⟩
        ·rw [if_neg hl] at H; cases H
      ·rw [if_neg hg] at H; cases H
end Go.Proofs.YtocfcpicleomcaaDoor.X
