import Derived.Test.YtocfcpicleomcaaDoorFU2
import Derived.Carry
import Derived.Outline
import Derived.Test.YtocfcpicleomcaaDoorFU3
namespace Go.Proofs.YtocfcpicleomcaaDoor.X
set_option maxHeartbeats 16000000
set_option maxRecDepth 100000
open Go.RowKit Go.Proofs.YtocfcpicleomcaaDoorW.PrintWords Go.Proofs.YtocfcpicleomcaaDoorW.PrintLast Go.Proofs.YtocfcpicleomcaaDoorW.PrintMore
attribute [local go_sem] kc0 ka0 zg1 zf1 jh0 jg0 kb0 jz0
set_option linter.unusedVariables false
set_option linter.unusedSimpArgs false
def yr0.l0 : Nat → Int → Int → Option (Int)
 | 0, _, _ => none
 | k + 1, x0, x3 => if x0 > 0 then (yr0.l0 k (wrap64 (x0 - 1)) (wrap64 (x3 * 3))) else (some x3)
def yr0.f (k : Nat) (a0 : Int) : Option (Int) := yr0.l0 k a0 1
theorem yr0.mono_l : ∀ k, (∀ y0 y1, LeO (yr0.l0 k y0 y1) (yr0.l0 (k + 1) y0 y1))
 | 0 => fun _ _ r h => by simp [yr0.l0] at h
 | k + 1 => by
  have ih0 := yr0.mono_l k
  ·intro y0 y1; unfold yr0.l0
   repeat' first
   | (with_reducible exact ih0 _ _)
   | (with_reducible exact LeO.refl _)
   | (with_reducible exact LeO.none _)
   | (with_reducible refine LeO.ite ?_ ?_)
   | (with_reducible refine LeO.bind ?_ (fun _ => ?_))
   | exact ih0 _ _
   | exact LeO.none _
   | refine LeO.ite ?_ ?_
   | refine LeO.bind ?_ (fun _ => ?_)
theorem yr0.mono : ∀ a0 k, LeO (yr0.f k a0) (yr0.f (k + 1) a0) := by
 intro a0 k; have ih0 := yr0.mono_l k; unfold yr0.f
 repeat' first
   | (with_reducible exact ih0 _ _)
   | (with_reducible exact LeO.refl _)
   | (with_reducible exact LeO.none _)
   | (with_reducible refine LeO.ite ?_ ?_)
   | (with_reducible refine LeO.bind ?_ (fun _ => ?_))
   | exact ih0 _ _
   | exact LeO.none _
   | refine LeO.ite ?_ ?_
   | refine LeO.bind ?_ (fun _ => ?_)
theorem yr0.calls (k : Nat) (a0 : Int) (r : Int) (w : World) (h : yr0.f k a0 = some r) :
  Calls Tryd.prog 142 #[.int .i64 a0] w fun e w' => e = .returned (.int .i64 r) ∧ qd0 w w' := by
 have H : (yr0.l0 k a0 1) = some r := h; clear h; have H' := am H; clear H; go_enter Tryd.func142, Tryd.ntmps142; go_wp2
 go_loopg [0, 3] k (fun kq v0 v3 w' => ∃ (x0_1 : Int) (x3_1 : Int), v0 = .int .i64 x0_1 ∧ v3 = .int .i64 x3_1 ∧ zd0 (yr0.l0 kq x0_1 x3_1 = some r) ∧ zd0 (kq ≤ k) ∧ qd0 w w')
 case atStart => exact ⟨(a0), (1), (tF), (tF), H', ⟨Nat.le_refl _⟩, tD⟩
 case round =>
  clear H'
  try clear c1
  obtain ⟨x0_1, x3_1, rfl, rfl, HA, HK1, ⟨m1, rfl⟩⟩ := hrel
  cases gk with
  | zero => exact absurd HA.out (by simp [yr0.l0])
  | succ k1 =>
   have H := HA.out; clear HA; simp only [yr0.l0] at H; by_cases c2 : x0_1 > 0
   ·rw [if_pos c2] at H; have c2b0 : decide (0 < x0_1) = true := decide_eq_true c2; clear c2; have H' := am H; clear H; go_wp2; go_roundg k1
    case measure => have := HK1.out; omega
    case rel => exact ⟨(wrap64 (x0_1 - 1)), (wrap64 (x3_1 * 3)), (tF), (tF), H', ⟨by have := HK1.out; omega⟩, tD⟩
   ·rw [if_neg c2] at H; have c2b0 : decide (0 < x0_1) = false := decide_eq_false c2; clear c2; obtain rfl := Option.some.inj H; go_wp2; go_ret; exact ⟨tF, tD⟩
def zy0.f (k : Nat) (a0 : Int) : Option (Int) := (yr0.f k a0).bind fun t185 => (some (wrap64 (t185 - 1)))
theorem zy0.mono : ∀ a0 k, LeO (zy0.f k a0) (zy0.f (k + 1) a0) := by
 intro a0 k; unfold zy0.f
 repeat' first
   | (with_reducible exact yr0.mono _ _)
   | (with_reducible exact LeO.refl _)
   | (with_reducible exact LeO.none _)
   | (with_reducible refine LeO.ite ?_ ?_)
   | (with_reducible refine LeO.bind ?_ (fun _ => ?_))
   | exact yr0.mono _ _
   | exact LeO.none _
   | refine LeO.ite ?_ ?_
   | refine LeO.bind ?_ (fun _ => ?_)
theorem zy0.calls (k : Nat) (a0 : Int) (r : Int) (w : World) (h : zy0.f k a0 = some r) :
  Calls Tryd.prog 118 #[.int .i64 a0] w fun e w' => e = .returned (.int .i64 r) ∧ qd0 w w' := by
 have H : ((yr0.f k a0).bind fun t185 => (some (wrap64 (t185 - 1)))) = some r := h; clear h; obtain ⟨t185, A20, H⟩ := oB H; replace H : (some (wrap64 (t185 - 1))) = some r := H; have A2 := am A20; clear A20; obtain rfl := Option.some.inj H; go_enter Tryd.func118, Tryd.ntmps118
 go_wp2_with (first | ((with_reducible refine yg0 (f := 142) rfl ?_); refine xu0 (some 4) Tryd.func142 #[.int .i64 a0] rfl rfl rfl (h := ?_); (with_reducible refine (yr0.calls k a0 t185 _ A2.out).mono ?_); rintro e w' ⟨rfl, ⟨nd, rfl⟩⟩; refine ⟨_, rfl, ?_⟩))
 go_ret; exact ⟨tF, tD⟩
/-- The state of 'grow': m, ids (of lm), the result's place, list, m.accept, m.next. -/
def GI (w W : World) (tapes : Int) (own : Nat → Nat) (v14 : Value) (l lm : List Int) (va : Value) (bs : List Bool) (vr : Value) (rs : List (List Int)) : Prop :=
 (W.heap[w.heap.size + 1]? = some (.cells #[.int .i64 tapes, .int .i64 0, va, vr] 64 (0, 0)) ∧ own (w.heap.size + 1) = 4) ∧
 (W.ownsMap Tryd.prog 3 (plainElem Tryd.prog 3) (w.heap.size + 2) lm.length (idsD (Lit.int .i64) lm) ∧ own (w.heap.size + 2) = 5) ∧
 (W.heap[w.heap.size]? = some (.cells #[.int .i64 0, .int .i64 0, .slice none 0 0, .slice none 0 0] 64 (0, 0)) ∧ own w.heap.size = 6) ∧
 (Kd.int .i64).R 3 W w.heap.size (fun k => own k = 1) v14 l ∧ Kd.bool.R 4 W w.heap.size (fun k => own k = 2) va bs ∧
 Kd.S (Kd.slice 3 (Kd.int .i64)) 81 W w.heap.size (fun k => own k = 3) vr rs ∧
 Below w.heap.size w W ∧ lm.Nodup ∧ (∀ x ∈ lm, zl1 x = true) ∧ lm.length ≤ 1900000
section
variable {w W W1 : World} {tapes : Int} {own : Nat → Nat} {v14 : Value} {l lm : List Int} {va : Value} {bs : List Bool} {vr : Value} {rs : List (List Int)}
theorem GI.below (h : GI w W tapes own v14 l lm va bs vr rs) (hb : Below W.heap.size W W1) : GI w W1 tapes own v14 l lm va bs vr rs := by
 obtain ⟨⟨h1, h2⟩, ⟨h3, h4⟩, ⟨h5, h6⟩, h7, h8, h9, h10, h11⟩ := h; exact ⟨⟨zf0 h1 hb, h2⟩, ⟨qp1 h3 hb, h4⟩, ⟨zf0 h5 hb, h6⟩, Kd.yo0 h7 hb, Kd.yo0 h8 hb, Kd.zv1 h9 hb, zn0 h10 h10.size hb, h11⟩
/-- Another row (number t, none of these) was written. -/
theorem GI.other (h : GI w W tapes own v14 l lm va bs vr rs) {row : Option Nat} {t : Nat} (hg : W.grownBy W1 row) (hr : ∀ k, row = some k → retag own W.heap.size t k = t) (hb : Below w.heap.size w W1) (ht : 6 < t) : GI w W1 tapes (retag own W.heap.size t) v14 l lm va bs vr rs := by
 obtain ⟨h1, h3, h5, h7, h8, h9, h10, h11⟩ := h; exact ⟨yj0 h1 hg hr (by omega), qi0 h3 hg hr (by omega), yj0 h5 hg hr (by omega), xf0 h7 hg hr (by omega), xf0 h8 hg hr (by omega), jn0 h9 hg hr (by omega), hb, h11⟩
/-- A new state was put into the map. -/
theorem GI.put (h : GI w W tapes own v14 l l va bs vr rs) {x : Int} (hx : x ∉ l) (hi : zl1 x = true) (hl : l.length < 1900000) (hm : W1.ownsMap Tryd.prog 3 (plainElem Tryd.prog 3) (w.heap.size + 2) (l.length + 1) (idsD (Lit.int .i64) (l ++ [x]))) (hg : W.grownBy W1 (some (w.heap.size + 2))) :
  GI w W1 tapes (retag own W.heap.size 5) v14 l (l ++ [x]) va bs vr rs ∧ ∀ k, some (w.heap.size + 2) = some k → retag own W.heap.size 5 k = 5 := by
 obtain ⟨h1, h3, h5, h7, h8, h9, h10, hn, hin, hlen⟩ := h; (have e : retag own W.heap.size 5 (w.heap.size + 2) = 5 := by rw [qa0 h3.1.lt]; exact h3.2)
 have hr : ∀ k, some (w.heap.size + 2) = some k → retag own W.heap.size 5 k = 5 := by
  intro k hk; injection hk with hk; subst hk; exact e
 refine ⟨⟨yj0 h1 hg hr (by omega), ⟨by simpa using hm, e⟩, yj0 h5 hg hr (by omega), xf0 h7 hg hr (by omega), xf0 h8 hg hr (by omega), jn0 h9 hg hr (by omega), h10.grown hg h10.size (fun k hk => by injection hk with hk; omega), ?_, ?_, by simp; omega⟩, hr⟩
 ·refine List.nodup_append.2 ⟨hn, by simp, fun a ha b hb => ?_⟩; simp at hb; subst hb; exact fun he => hx (he ▸ ha)
 ·intro y hy
  rcases List.mem_append.1 hy with hy | hy
  ·exact hin y hy
  ·simp at hy; subst hy; exact hi
/-- .. and behind the list. -/
theorem GI.push (h : GI w W tapes own v14 l lm va bs vr rs) {v1 : Value} {l1 : List Int} (hR : (Kd.int .i64).R 3 W1 w.heap.size (fun k => retag own W.heap.size 1 k = 1) v1 l1) (hb : Below w.heap.size w W1) (hg : W.grownBy W1 v14.ownBlock) : GI w W1 tapes (retag own W.heap.size 1) v1 l1 lm va bs vr rs := by
 obtain ⟨h1, h3, h5, h7, h8, h9, h10, h11⟩ := h; have hr := qp0 h7; exact ⟨yj0 h1 hg hr (by omega), qi0 h3 hg hr (by omega), yj0 h5 hg hr (by omega), hR, xf0 h8 hg hr (by omega), jn0 h9 hg hr (by omega), hb, h11⟩
/-- m.accept was appended to (not yet stored back): m's own block, still. -/
theorem GI.box (h : GI w W tapes own v14 l lm va bs vr rs) (hg : W.grownBy W1 va.ownBlock) : W1.heap[w.heap.size + 1]? = some (.cells #[.int .i64 tapes, .int .i64 0, va, vr] 64 (0, 0)) := by
 obtain ⟨h1, h3, h5, h7, h8, h9, h10, h11⟩ := h; exact (yj0 h1 hg (qp0 h8) (by omega)).1
theorem GI.acc (h : GI w W tapes own v14 l lm va bs vr rs) {v1 : Value} {bs1 : List Bool} (hR : Kd.bool.R 4 W1 w.heap.size (fun k => retag own W.heap.size 2 k = 2) v1 bs1) (hb : Below w.heap.size w W1) (hg : W.grownBy W1 va.ownBlock) : GI w (W1.setCell ⟨w.heap.size + 1, 2, none⟩ v1) tapes (retag own W.heap.size 2) v14 l lm v1 bs1 vr rs := by
 obtain ⟨h1, h3, h5, h7, h8, h9, h10, h11⟩ := h; have hr := qp0 h8; have b1 := yj0 h1 hg hr (by omega); have b0 := yj0 h5 hg hr (by omega); have bm := qi0 h3 hg hr (by omega); have ne : ∀ s k, s ≠ 4 → retag own W.heap.size 2 k = s → k ≠ w.heap.size + 1 := fun s k hs hk he => hs (by rw [← hk, he, b1.2]); refine ⟨⟨by simpa using qr0 b1.1 2 v1, b1.2⟩, ⟨bm.1.setCell (by simp) _, bm.2⟩, ⟨xj0 b0.1 (by simp) _, b0.2⟩, Kd.jb0 (p := ⟨w.heap.size + 1, 2, none⟩) (xf0 h7 hg hr (by omega)) (fun k hk => ne 1 k (by omega) hk) _, Kd.jb0 (p := ⟨w.heap.size + 1, 2, none⟩) hR (fun k hk => ne 2 k (by omega) hk) _, Kd.yc1 (p := ⟨w.heap.size + 1, 2, none⟩) (jn0 h9 hg hr (by omega)) (fun k hk => ne 3 k (by omega) hk) _, hb.setCell (by simp) _, h11⟩
/-- The row was put behind m.next, and m.next stored back. -/
def ky0 (f : Nat → Nat) : Nat → Nat := fun k => if f k = 7 then 3 else f k
theorem GI.boxN (h : GI w W tapes own v14 l lm va bs vr rs) (hg : W.grownBy W1 vr.ownBlock) : W1.heap[w.heap.size + 1]? = some (.cells #[.int .i64 tapes, .int .i64 0, va, vr] 64 (0, 0)) := by
 obtain ⟨h1, h3, h5, h7, h8, h9, h10, h11⟩ := h; exact (yj0 h1 hg (ja1 h9) (by omega)).1
theorem GI.nxt (h : GI w W tapes own v14 l lm va bs vr rs) {v1 : Value} {rs1 : List (List Int)} (hR : Kd.S (Kd.slice 3 (Kd.int .i64)) 81 W1 w.heap.size (fun k => retag own W.heap.size 3 k = 3 ∨ retag own W.heap.size 3 k = 7) v1 rs1) (hb : Below w.heap.size w W1) (hg : W.grownBy W1 vr.ownBlock) : GI w (W1.setCell ⟨w.heap.size + 1, 3, none⟩ v1) tapes (ky0 (retag own W.heap.size 3)) v14 l lm va bs v1 rs1 := by
 obtain ⟨h1, h3, h5, h7, h8, h9, h10, h11⟩ := h; have hr := ja1 h9; have b1 := yj0 h1 hg hr (by omega); have b0 := yj0 h5 hg hr (by omega); have bm := qi0 h3 hg hr (by omega); have ne : ∀ s k, s ≠ 4 → retag own W.heap.size 3 k = s → k ≠ w.heap.size + 1 := fun s k hs hk he => hs (by rw [← hk, he, b1.2]); (have mg : ∀ s k, s ≠ 7 → retag own W.heap.size 3 k = s → ky0 (retag own W.heap.size 3) k = s := fun s k hs hk => by simp [ky0, hk, hs]); refine ⟨⟨by simpa using qr0 b1.1 3 v1, mg 4 _ (by omega) b1.2⟩, ⟨bm.1.setCell (by simp) _, mg 5 _ (by omega) bm.2⟩, ⟨xj0 b0.1 (by simp) _, mg 6 _ (by omega) b0.2⟩, Kd.yl0 (Kd.jb0 (p := ⟨w.heap.size + 1, 3, none⟩) (xf0 h7 hg hr (by omega)) (fun k hk => ne 1 k (by omega) hk) _) (fun k hk => mg 1 k (by omega) hk), Kd.yl0 (Kd.jb0 (p := ⟨w.heap.size + 1, 3, none⟩) (xf0 h8 hg hr (by omega)) (fun k hk => ne 2 k (by omega) hk) _) (fun k hk => mg 2 k (by omega) hk), Kd.qh0 (Kd.yc1 (p := ⟨w.heap.size + 1, 3, none⟩) hR (fun k hk => hk.elim (ne 3 k (by omega)) (ne 7 k (by omega))) _) (fun k hk => hk.elim (fun h => mg 3 k (by omega) h) (fun h => by simp [ky0, h])), hb.setCell (by simp) _, h11⟩
end
theorem zq3 : (Tryd.prog.info? 81).map (fun i => (i.zero, i.size, i.bytes)) = some (some (.slice none 0 0), 1, 24) := by kernel_rfl
theorem zo1 (w : World) : (zeroValue 3).run Tryd.prog w = .ok (.int .i64 0) w := by kernel_rfl
theorem kf3 (a b : Int) (h : Lit.int .i64 a = Lit.int .i64 b) : a = b := by injection h
theorem ke3 (a : Int) : WideAt.IsKeyLit (Lit.int .i64 a) := trivial
def qn2 (w : World) (tapes : Int) (bs : List Bool) (rs : List (List Int)) (e : Ending) (w' : World) : Prop :=
 ∃ va vr, e = .returned (.tuple #[.agg #[.int .i64 tapes, .int .i64 0, va, vr], .bool true]) ∧ Kd.bool.R 4 w' w.heap.size (fun _ => True) va bs ∧ Kd.S (Kd.slice 3 (Kd.int .i64)) 81 w' w.heap.size (fun _ => True) vr rs ∧ Below w.heap.size w w'
theorem ku4 {w W : World} {tapes : Int} {own : Nat → Nat} {v14 : Value} {l lm : List Int} {va : Value} {bs : List Bool} {vr : Value} {rs : List (List Int)} (h : GI w W tapes own v14 l lm va bs vr rs) {i : Nat} {k : Int} (hk : l[i]? = some k) :
  ∃ g c, v14 = .slice (some ⟨g, 0, none⟩) l.length c ∧ W.cell? ⟨g, i, none⟩ = some (.int .i64 k) := by
 obtain ⟨_, _, _, h7, _⟩ := h; have hi : i < l.length := (List.getElem?_eq_some_iff.1 hk).1; obtain ⟨g, cap, hv, _⟩ := Kd.jl0 h7 (by omega); subst hv; obtain ⟨_, _, hC⟩ := Kd.zt0 h7; obtain ⟨ad, e, hx⟩ := Kd.yk0 hC (i : Int) (by omega) (by omega); injection e with e; subst e; refine ⟨g, cap, rfl, ?_⟩; rw [add_plain] at hx; simp only [Int.toNat_natCast] at hx; rw [hx]; simp [rd, List.getD_eq_getElem?_getD, hk]
theorem yu4 {w w1 : World} {tapes start : Int} (hs : zl1 start = true)
  (hown : w1.ownsMap Tryd.prog 3 (plainElem Tryd.prog 3) (w.heap.size + 1 + 1) (0 + 1) (DataW.put (.map [] : DataW Unit) (.int .i64 start) (.lit (.int .i64 0))))
  (hg : World.grownBy (((w.alloc (.cells #[.int .i64 0, .int .i64 0, .slice none 0 0, .slice none 0 0] 64)).alloc (.cells #[.int .i64 tapes, .int .i64 0, .slice none 0 0, .slice none 0 0] 64)).alloc (.map #[] 0)) w1 (some (w.heap.size + 1 + 1))) :
  GI w (w1.alloc (.cells #[.int .i64 start] 3)) tapes (fun k => if k = w.heap.size + 1 then 4 else if k = w.heap.size + 2 then 5 else if k = w.heap.size then 6 else 1) (.slice (some ⟨w1.heap.size, 0, none⟩) 1 1) [start] [start] (.slice none 0 0) [] (.slice none 0 0) [] := by
 have hsz : w.heap.size + 3 ≤ w1.heap.size := by have := hg.size; simp at this; omega
 have hB : Below w.heap.size w w1 := by
  refine Below.trans ((((Below.refl _ w).alloc (Nat.le_refl _) _).alloc (by simp) _).alloc (by simp; omega) _) ⟨hg.os, hg.tape, hg.output, hg.size, fun k hk => hg.block k (by simp; omega) (by simp; omega)⟩
 have hB2 := hB.alloc (by omega) (.cells #[.int .i64 start] 3)
 have h1 : w1.heap[w.heap.size + 1]? = some (.cells #[.int .i64 tapes, .int .i64 0, .slice none 0 0, .slice none 0 0] 64 (0, 0)) := by
  rw [hg.block _ (by simp) (by simp)]; exact yc0 (by have := yt0 (w.alloc (.cells #[.int .i64 0, .int .i64 0, .slice none 0 0, .slice none 0 0] 64)) (.cells #[.int .i64 tapes, .int .i64 0, .slice none 0 0, .slice none 0 0] 64); simpa using this) _
 have h0 : w1.heap[w.heap.size]? = some (.cells #[.int .i64 0, .int .i64 0, .slice none 0 0, .slice none 0 0] 64 (0, 0)) := by
  rw [hg.block _ (by simp; omega) (by simp; omega)]; exact yc0 (yc0 (yt0 w _) _) _
 refine ⟨⟨yc0 h1 _, by simp⟩, ⟨?_, by simp⟩, ⟨yc0 h0 _, by simp⟩, ?_, Kd.zm1 _ _ _ _ _, Kd.jr1 _ _ _ _ _, hB2, by simp, by simpa using hs, by simp⟩
 ·have := hown.alloc (.cells #[.int .i64 start] 3)
  simpa [idsD] using this
 ·exact zl4 (d := Kd.int .i64) w1 start [.int .i64 start] _ rfl rfl (by omega) (by show (if w1.heap.size = _ then _ else _) = 1; rw [if_neg (by omega), if_neg (by omega), if_neg (by omega)])
theorem xk1 {acc : Int → Option Bool} {next : Int → Int → Option Int} {W : Nat} {na nn : FuncId} {ca cn : Array Value} {tapes start : Int} {kw f : Nat} {as1 : List Bool} {rs1 : List (List Int)} (w : World)
  (hA : yp1 Tryd.prog w na ca (fun x : Int => #[.int .i64 x]) acc Value.bool) (hN : yp1 Tryd.prog w nn cn (fun x : Int × Int => #[.int .i64 x.1, .int .i64 x.2]) (fun x => next x.1 x.2) (Value.int .i64))
  (hw : zy0.f kw tapes = some (W : Int)) (hW : W ≤ 1000) (hs : zl1 start = true) (h : xy0 zl1 acc next W f [start] [] [] = some (as1, rs1)) :
  Calls Tryd.prog 79 #[.int .i64 tapes, .int .i64 start, .int .i64 0, .func (.func na) #[] ca, .func (.func nn) #[] cn] w (qn2 w tapes as1 rs1) := by
 have HA := am hA; have HN := am hN; have HW := am hw; have HH := am h; have HS := am hs; clear hA hN hw h hs; have hmm := @run_makeMap Tryd.prog; have hown0 : (((w.alloc (.cells #[.int .i64 0, .int .i64 0, .slice none 0 0, .slice none 0 0] 64)).alloc (.cells #[.int .i64 tapes, .int .i64 0, .slice none 0 0, .slice none 0 0] 64)).alloc (.map #[] 0)).ownsMap Tryd.prog 3 (plainElem Tryd.prog 3) (w.heap.size + 1 + 1) 0 (.map [] : DataW Unit) := qa2 _ (by simp); obtain ⟨w1, hrun, hown1, hg1⟩ := hown0.update (Maps.int_keyed Tryd.underlying3) Tryd.underlying108 (by unfold maxLen; omega) (key := .int .i64 start) (val := .int .i64 0) (Maps.keyOf_int_mk Tryd.underlying3 (xb1 HS.out)) (plainElem_int Tryd.underlying3 (by decide)); have HO1 := am hown1; have HG1 := am hg1; clear hown0 hown1 hg1; obtain ⟨fa, ha1, ha2, ha3⟩ := HA.out.fn; obtain ⟨fb, hb1, hb2, hb3⟩ := HN.out.fn; have hea := fun args W' => yl1 (P := Tryd.prog) ha1 ha2 ha3 args W'; have heb := fun args W' => yl1 (P := Tryd.prog) hb1 hb2 hb3 args W'; clear ha1 ha2 ha3 hb1 hb2 hb3; go_enter Tryd.func79, Tryd.ntmps79; go_wp2; have HI := am (yu4 HS.out HO1.out HG1.out); clear HO1 HG1 hmm hrun
 generalize w1.alloc _ = W0 at HI ⊢
 generalize (Value.slice (some { block := w1.heap.size, off := 0 }) 1 1) = v0 at HI ⊢
 go_loopg [14, 15] f (fun kq v14 v15 w' => ∃ (own : Nat → Nat) (l : List Int) (va : Value) (bs : List Bool) (vr : Value) (rs : List (List Int)), v15 = .int .i64 (bs.length : Int) ∧ zd0 (GI w w' tapes own v14 l l va bs vr rs) ∧ zd0 (xy0 zl1 acc next W kq l bs rs = some (as1, rs1)) ∧ zd0 (rs.length = bs.length))
 case atStart => exact ⟨_, [start], .slice none 0 0, [], .slice none 0 0, [], by simp, HI, HH, ⟨by simp⟩⟩
 case round =>
  clear HI HH; obtain ⟨own, l, va, bs, vr, rs, rfl, HI, HL, HRL⟩ := hrel
  cases gk with
  | zero => exact absurd HL.out (by simp [xy0])
  | succ k1 =>
   have H := HL.out; clear HL; simp only [xy0] at H
   cases hk : l[bs.length]? with
   | none =>
    rw [hk] at H; obtain ⟨rfl, rfl⟩ := Prod.mk.inj (Option.some.inj H); have hle : l.length ≤ bs.length := List.getElem?_eq_none_iff.1 hk; clear H hk; obtain ⟨⟨b1, -⟩, -, ⟨b0, -⟩, r14, rva, rvr, hB, -⟩ := HI.out; obtain ⟨A14, c14, rfl⟩ := Kd.zq0 r14; obtain ⟨Aa, cva, rfl⟩ := Kd.zq0 rva; obtain ⟨An, cvr, rfl⟩ := Kd.xc0 rvr; have c1 : decide ((bs.length : Int) < (l.length : Int)) = false := decide_eq_false (by omega); have c2 : decide (bs.length < l.length) = false := decide_eq_false (by omega); have RA := am rva; have RN := am rvr; have HB := am hB; have B0 := am b0; obtain ⟨m0, m1, m2, m3⟩ := bc4 b1; obtain ⟨n0, n1, n2, n3⟩ := bc4 b0; obtain ⟨f0, f1, f2, f3⟩ := bf4 b0; clear r14 rva rvr hB b1 b0 HI hle; go_wp2; refine bodyPost_ret (v := .tuple #[.agg #[.int .i64 tapes, .int .i64 0, .slice Aa bs.length cva, .slice An rs.length cvr], .bool true]) (by simp [results, Tryd.results79, go_sem, n0, n1, n2, n3]) rfl ⟨_, _, rfl, ?_, ?_, ?_⟩
    ·exact Kd.yl0 (kc1 RA.out B0.out (by decide) _ _ _ _) (fun _ _ => trivial)
    ·exact Kd.qh0 (kb1 RN.out B0.out (by decide) _ _ _ _) (fun _ _ => trivial)
    ·exact jt0 HB.out (Nat.le_refl _) _ _ _ _
   | some k =>
    rw [hk] at H; simp only [] at H; obtain ⟨⟨l1, row1⟩, hrow, H⟩ := oB H; obtain ⟨a1, hacc, H⟩ := oB H; obtain ⟨g, c14, rfl, hcell⟩ := ku4 HI.out hk; have hlt : bs.length < l.length := (List.getElem?_eq_some_iff.1 hk).1; have c1 : decide ((bs.length : Int) < (l.length : Int)) = true := decide_eq_true (by omega); have c2 : decide (bs.length < l.length) = true := decide_eq_true (by omega); have HR := am hrow; have HC := am hacc; have HG := am H; clear H hrow hacc hk; go_wp2
    go_loopg [14, 17, 18] W (fun kq v14 v17 v18 w' => ∃ (own : Nat → Nat) (l' : List Int) (row : List Int) (c : Nat), v18 = .int .i64 (c : Int) ∧ zd0 (c + kq = W) ∧ zd0 (GI w w' tapes own v14 l' l' va bs vr rs ∧ (Kd.int .i64).R 3 w' w.heap.size (fun k => own k = 7) v17 row) ∧ zd0 (xv0 zl1 (next k) kq (c : Int) l' row = some (l1, row1)) ∧ zd0 (row.length = c ∧ bs.length ≤ l'.length ∧ bs.length < l'.length))
    case atStart => exact ⟨own, l, [], 0, by simp, ⟨by omega⟩, ⟨HI.out, Kd.zm1 _ _ _ _ _⟩, ⟨HR.out⟩, ⟨rfl, by omega, hlt⟩⟩
    case round =>
     clear HI HR hcell c1 c2 hlt; obtain ⟨own, l', row, c, rfl, HCW, HI2, HR2, HN2⟩ := hrel
     cases gk with
     | zero =>
      have e := HR2.out; simp only [xv0] at e; obtain ⟨rfl, rfl⟩ := Prod.mk.inj (Option.some.inj e); have hcw := HCW.out; have c1 : decide ((c : Int) < (W : Int)) = false := decide_eq_false (by omega); have c2 : decide (c < W) = false := decide_eq_false (by omega); clear e HR2 hcw
      go_wp2_with (first | (go_at_call 118; (with_reducible refine (zy0.calls kw tapes (W : Int) _ HW.out).mono ?_); rintro e w' ⟨rfl, ⟨nd, rfl⟩⟩))
      have HI3 := am ((HI2.out.1.below (zg0 (Below.refl _ _) nd)).below (xd0 (Below.refl _ _))); have HR3 := am (Kd.yo0 (Kd.yo0 HI2.out.2 (zg0 (Below.refl _ _) nd)) (xd0 (Below.refl _ _))); obtain ⟨Aa, cva, hva⟩ := Kd.zq0 HI3.out.2.2.2.2.1; subst hva; have hS : (wr.drewN nd).drew.cell? ⟨w.heap.size + 1, 2, none⟩ = some (.slice Aa bs.length cva) := (zh0 HI3.out.1.1 2).trans rfl; clear HI2; refine qu0 (n := 9) (S := fun w' => w'.cell? ⟨w.heap.size + 1, 2, none⟩ = some (.slice Aa bs.length cva)) (ds := [8]) #[false, false, false, false, false, false, false, false, false] (by kernel_rfl) rfl rfl hS (fun hHeld => ?_)
      generalize (wr.drewN nd).drew = w3 at HI3 HR3 hS hHeld ⊢
      refine zz0 0 (some 79) (bl 9 1) rfl rfl (h := ?_); refine jg1 (i := 1) (N := some 80) (v := ?_) (a' := ?_) #[true, true, false, false, false, false, false, false, false] rfl rfl (by kernel_rfl) (fun _ _ _ h => h) (Or.inl ⟨by rfl, ?_⟩) hHeld ?_ ?_; rotate_left
      ·intro w' s0; go_simp; (with_reducible rfl)
      rotate_left
      ·simp only [Act.put, List.setIfInBounds_toArray, List.set_cons_zero, List.set_cons_succ]; rfl
      refine zz0 2 (some 81) (bl 9 7) rfl rfl (h := ?_); refine zz0 3 (some 82) (bl 9 15) rfl rfl (h := ?_); refine oneA 4 (some 83) (bl 9 31) rfl rfl (fun K hK => ?_); obtain ⟨fa, ha1, ha2, ha3⟩ := HA.out.fn; refine call_ na (#[.int .i64 k] ++ ca) (by rfl) rfl (kh1 ha1 ha2 ha3 _ rfl rfl (by (try simp only [List.map_toArray, List.map_cons, List.map_nil]); rfl)) ?_; refine (HA.out.run k a1 w3 HI3.out.2.2.2.2.2.2.1 HC.out).mono ?_; rintro e w4 ⟨rfl, hb4⟩; refine ⟨_, rfl, ?_⟩; have HI4 := am (HI3.out.below hb4); have HR4 := am (Kd.yo0 HR3.out hb4); clear HI3 HR3 hS hHeld hb4; refine hK.out _ _ ((zh0 HI4.out.1.1 2).trans rfl) (fun hHeld => ?_); clear hK K; refine qk0 (h := ?_); refine oneA 5 (some 84) (bl 9 63) rfl rfl (fun K hK => ?_); refine zy1 (v := .slice (some ⟨w4.heap.size, 0, none⟩) 1 1) (w1 := w4.alloc (.cells #[.bool a1] 4)) (by rfl) rfl ?_ ?_
      ·go_simp
      refine hK.out _ _ ((zh0 (yc0 HI4.out.1.1 _) 2).trans rfl) (fun hHeld => ?_); clear hK K; refine qk0 (h := ?_); refine oneA 6 (some 85) (bl 9 127) rfl rfl (fun K hK => ?_); refine Kd.qy0 Kd.bool (w0 := w) w.heap.size (by rfl) (.tmp 80) (.tmp 84) 22 4 (.bool false) 1 rfl Tryd.underlying22 yq2 rfl (by decide) (by omega) (.slice Aa bs.length cva) bs a1 [.bool a1] (fun k => retag own w4.heap.size 2 k = 2) (fun _ => False) rfl rfl rfl (fun _ hk => hk.elim) (fun _ hk => yw0 hk) (jq0 HI4.out.2.2.2.2.1 2) HI4.out.2.2.2.2.2.2.1 HI4.out.2.2.2.2.2.2.1.size (by have := HN2.out.2.1; have := HI4.out.2.2.2.2.2.2.2.2.2; omega) ?_; intro v5 w5 ho hb hg hat; obtain ⟨A5, c5, hv5⟩ := Kd.zq0 ho; subst hv5; have b5 := GI.box HI4.out hg; have HI5 := am (GI.acc HI4.out ho hb hg); have HR5 := am (Kd.jb0 (p := ⟨w.heap.size + 1, 2, none⟩) (xf0 (t := 2) HR4.out hg (qp0 HI4.out.2.2.2.2.1) (by omega)) (fun k hk he => by have := HI5.out.1.2; rw [he] at hk; simp only at hk; omega) (.slice A5 (bs ++ [a1]).length c5)); obtain ⟨-, -, m5, -⟩ := bc4 b5; have f5 := zb0 b5 2; clear HI4 HR4 ho hb hg hat b5; refine hK.out _ _ m5 (fun hHeld => ?_); clear hK K; refine qk0 (h := ?_); refine oneA 7 (some 86) (bl 9 255) rfl rfl (fun K hK => ?_); refine zy1 (v := .pointer (some ⟨w.heap.size + 1, 2, none⟩)) (w1 := w5) (by rfl) rfl ?_ ?_
      ·go_simp
      refine hK.out _ _ m5 (fun hHeld => ?_); clear hK K; refine qk0 (h := ?_); refine jk1 (i := 8) (N := none) (bl 9 511) rfl rfl (by kernel_rfl) (by decide) (fun K hK => ?_); refine qb1 (w1 := w5.setCell ⟨w.heap.size + 1, 2, none⟩ (.slice A5 (bs ++ [a1]).length c5)) (by rfl) rfl ?_ ?_
      ·go_simp
      refine hK.out _ _ ?_; clear hK K; refine kv0 (by kernel_rfl) ?_; clear m5 f5 hHeld
      generalize w5.setCell _ _ = w6 at HI5 HR5 ⊢
      obtain ⟨An, cvr, hvr⟩ := Kd.xc0 HI5.out.2.2.2.2.2.1; subst hvr; obtain ⟨Ar, cr, hr17⟩ := Kd.zq0 HR5.out; subst hr17; obtain ⟨-, -, -, m3⟩ := bc4 HI5.out.1.1; (have hrl : row.length < 1000000 := by have := HN2.out.1; have := HCW.out; omega)
      go_wp2_with (first | ((with_reducible refine yf0 (b := .append) (xs := #[.tmp 88, .tmp 90]) rfl ?_); at_builtin; refine Kd.zt1 (Kd.slice 3 (Kd.int .i64)) (w0 := w) w.heap.size rfl (.tmp 88) (.tmp 90) 62 81 (.slice none 0 0) 24 rfl Tryd.underlying62 zq3 rfl (by decide) (by omega) (.slice An rs.length cvr) rs row [.slice Ar row.length cr] (fun k => retag (retag own w4.heap.size 2) w6.heap.size 3 k = 3 ∨ retag (retag own w4.heap.size 2) w6.heap.size 3 k = 7) (fun k => retag (retag own w4.heap.size 2) w6.heap.size 3 k = 7) rfl rfl ?aP ?aK ?aF ?aO ?aB ?aS ?aL ?_; (case aP => exact ⟨_, rfl, jq0 HR5.out 3⟩); (case aK => intro k hk; exact ⟨Or.inr hk, fun he => by have := ja1 HI5.out.2.2.2.2.2.1 k he.symm; omega⟩); (case aF => exact (fun _ hk => Or.inl (yw0 hk))); (case aO => exact Kd.qh0 (za1 HI5.out.2.2.2.2.2.1 3) (fun k hk => ⟨Or.inl hk, by omega⟩)); (case aB => exact HI5.out.2.2.2.2.2.2.1); (case aS => exact HI5.out.2.2.2.2.2.2.1.size); (case aL => have := HN2.out.2.1; have := HI5.out.2.2.2.2.2.2.2.2.2; have := HRL.out; omega); intro v7 w7 ho hb hg hat; obtain ⟨A7, c7, hv7⟩ := Kd.xc0 ho; subst hv7; have b7 := GI.boxN HI5.out hg; have HI6 := am (GI.nxt HI5.out ho hb hg); obtain ⟨-, -, -, m7⟩ := bc4 b7; have f7 := zb0 b7 3; clear HI5 HR5 ho hb hg hat b7 m3))
      go_roundg k1
      case measure => omega
      case rel =>
       have q1 := HN2.out.2.1; have q2 := HI6.out.2.2.2.2.2.2.2.2.2; exact ⟨_, l', _, bs ++ [a1], _, rs ++ [row], by rw [show (bs ++ [a1]).length = bs.length + 1 by simp, show wrap64 ((bs.length : Int) + 1) = (bs.length : Int) + 1 by unfold wrap64; omega]; rfl, by have h_ := HI6; rw [show (rs ++ [row]).length = rs.length + 1 by simp] at h_; exact h_, ⟨by have h_ := HG.out; simpa using h_⟩, ⟨by have := HRL.out; simp; omega⟩⟩
     | succ k2 =>
      have H := HR2.out; simp only [xv0] at H; obtain ⟨x, hnx, H⟩ := oB H; have hcw := HCW.out; have c1 : decide ((c : Int) < (W : Int)) = true := decide_eq_true (by omega); have c2 : decide (c < W) = true := decide_eq_true (by omega); (have b1 : c < 1000 := by omega); clear hcw HR2; by_cases hg : zl1 x = true
      ·rw [if_pos hg] at H; have HX := am hg; have HNX := am hnx; clear hg hnx; obtain ⟨A14, c14', hv14⟩ := Kd.zq0 HI2.out.1.2.2.2.1; subst hv14; by_cases hm : x ∈ l'
       ·rw [if_pos hm] at H; have HM := am hm; have H' := am H; clear hm H
        go_wp2_with (first | (go_at_call 118; (with_reducible refine (zy0.calls kw tapes (W : Int) _ HW.out).mono ?_); rintro e w' ⟨rfl, ⟨nd, rfl⟩⟩))
        refine (HN.out.run (k, (c : Int)) x _ ?hB HNX.out).mono ?_
        case hB => exact zg0 HI2.out.1.2.2.2.2.2.2.1 _
        rintro e w2 ⟨rfl, hb2⟩; have HI3 := am ((HI2.out.1.below (zg0 (Below.refl _ _) nd)).below hb2); have HR3 := am (Kd.yo0 (Kd.yo0 HI2.out.2 (zg0 (Below.refl _ _) nd)) hb2); clear hb2 HI2
        go_wp2_with (first | (at_lookup; refine jw0 _ rfl _ _ 108 rfl kf3 ke3 (Maps.int_keyed Tryd.underlying3) Tryd.underlying108 Tryd.underlying3 (zo1 _) rfl HI3.out.2.1.1 HI3.out.2.2.2.2.2.2.2.1 _ x rfl (Maps.keyOf_int_mk Tryd.underlying3 (xb1 HX.out)) _ true (if_pos HM.out) (decide_eq_true HM.out) ?_) | ((with_reducible refine yf0 (b := .append) (xs := #[.tmp 75, .tmp 77]) rfl ?_); at_builtin; refine Kd.xk0 (Kd.int .i64) (w0 := w) w.heap.size rfl (.tmp 75) (.tmp 77) 81 3 (.int .i64 0) 8 rfl Tryd.underlying81 info3 rfl (by decide) (by omega) u17 row ((l'.idxOf x : Nat) : Int) [.int .i64 ((l'.idxOf x : Nat) : Int)] (fun k => retag own w2.heap.size 7 k = 7) (fun _ => False) rfl rfl ?aP (fun _ hk => hk.elim) ?aF ?aO ?aB ?aS ?aL ?_; (case aP => exact rfl); (case aB => exact HI3.out.2.2.2.2.2.2.1); (case aF => exact (fun _ hk => yw0 hk)); (case aO => exact jq0 HR3.out 7); (case aS => exact HI3.out.2.2.2.2.2.2.1.size); (case aL => have := HN2.out.1; omega); intro v5 w5 ho hb hg hat; have n0_ := am (GI.other HI3.out hg (qp0 HR3.out) hb (by omega)); have n1_ := am ho; clear HI3 HR3 ho hb hg hat))
        go_roundg k2
        case measure => omega
        case rel => exact ⟨retag own w2.heap.size 7, l', row ++ [((l'.idxOf x : Nat) : Int)], c + 1, by go_num, ⟨by have := HCW.out; omega⟩, ⟨n0_.out, n1_.out⟩, ⟨by have h_ := H'.out; rwa [show (c : Int) + 1 = ((c + 1 : Nat) : Int) by omega] at h_⟩, ⟨by simp [HN2.out.1], HN2.out.2⟩⟩
       ·rw [if_neg hm] at H; by_cases hl : l'.length < 1900000
        ·rw [if_pos hl] at H; have HM := am hm; have HL2 := am hl; have H' := am H; clear hm H
         go_wp2_with (first | (go_at_call 118; (with_reducible refine (zy0.calls kw tapes (W : Int) _ HW.out).mono ?_); rintro e w' ⟨rfl, ⟨nd, rfl⟩⟩))
         refine (HN.out.run (k, (c : Int)) x _ ?hB HNX.out).mono ?_
         case hB => exact zg0 HI2.out.1.2.2.2.2.2.2.1 _
         rintro e w2 ⟨rfl, hb2⟩; have HI3 := am ((HI2.out.1.below (zg0 (Below.refl _ _) nd)).below hb2); have HR3 := am (Kd.yo0 (Kd.yo0 HI2.out.2 (zg0 (Below.refl _ _) nd)) hb2); clear hb2 HI2
         go_wp2_with (first | (at_lookup; refine jw0 _ rfl _ _ 108 rfl kf3 ke3 (Maps.int_keyed Tryd.underlying3) Tryd.underlying108 Tryd.underlying3 (zo1 _) rfl HI3.out.2.1.1 HI3.out.2.2.2.2.2.2.2.1 _ x rfl (Maps.keyOf_int_mk Tryd.underlying3 (xb1 HX.out)) _ false (if_neg HM.out) (decide_eq_false HM.out) ?_) | (at_mapUpdate; refine kp0 _ rfl _ _ _ 108 rfl (Maps.int_keyed Tryd.underlying3) Tryd.underlying108 Tryd.underlying3 rfl HI3.out.2.1.1 ?uM _ x rfl (Maps.keyOf_int_mk Tryd.underlying3 (xb1 HX.out)) rfl ?uL ?_; (case uM => unfold maxLen; omega); (case uL => omega); intro w3 hown3 hg3; have hq := GI.put HI3.out HM.out HX.out HL2.out hown3 hg3; have HI4 := am hq.1; have HR4 := am (xf0 (t := 5) HR3.out hg3 hq.2 (by omega)); clear HI3 HR3 hq hown3 hg3) | ((with_reducible refine yf0 (b := .append) (xs := #[.tmp 62, .tmp 64]) rfl ?_); at_builtin; refine Kd.xk0 (Kd.int .i64) (w0 := w) w.heap.size rfl (.tmp 62) (.tmp 64) 81 3 (.int .i64 0) 8 rfl Tryd.underlying81 info3 rfl (by decide) (by omega) (.slice A14 l'.length c14') l' x [.int .i64 x] (fun k => retag (retag own w2.heap.size 5) w3.heap.size 1 k = 1) (fun _ => False) rfl rfl ?aP (fun _ hk => hk.elim) ?aF ?aO ?aB ?aS ?aL ?_; (case aP => exact rfl); (case aB => exact HI4.out.2.2.2.2.2.2.1); (case aF => exact (fun _ hk => yw0 hk)); (case aO => exact jq0 HI4.out.2.2.2.1 1); (case aS => exact HI4.out.2.2.2.2.2.2.1.size); (case aL => omega); intro v4 w4 ho hb hg hat; have HI5 := am (GI.push HI4.out ho hb hg); have HR5 := am (xf0 (t := 1) HR4.out hg (qp0 HI4.out.2.2.2.1) (by omega)); clear HI4 HR4 ho hb hg hat) | ((with_reducible refine yf0 (b := .append) (xs := #[.tmp 75, .tmp 77]) rfl ?_); at_builtin; refine Kd.xk0 (Kd.int .i64) (w0 := w) w.heap.size rfl (.tmp 75) (.tmp 77) 81 3 (.int .i64 0) 8 rfl Tryd.underlying81 info3 rfl (by decide) (by omega) u17 row (l'.length : Int) [.int .i64 (l'.length : Int)] (fun k => retag (retag (retag own w2.heap.size 5) w3.heap.size 1) w4.heap.size 7 k = 7) (fun _ => False) rfl rfl ?aP (fun _ hk => hk.elim) ?aF ?aO ?aB ?aS ?aL ?_; (case aP => exact rfl); (case aB => exact HI5.out.2.2.2.2.2.2.1); (case aF => exact (fun _ hk => yw0 hk)); (case aO => exact jq0 HR5.out 7); (case aS => exact HI5.out.2.2.2.2.2.2.1.size); (case aL => have := HN2.out.1; omega); intro v5 w5 ho hb hg hat; have n0_ := am (GI.other HI5.out hg (qp0 HR5.out) hb (by omega)); have n1_ := am ho; clear HI5 HR5 ho hb hg hat))
         go_roundg k2
         case measure => omega
         case rel => exact ⟨_, l' ++ [x], row ++ [(l'.length : Int)], c + 1, by go_num, ⟨by have := HCW.out; omega⟩, ⟨n0_.out, n1_.out⟩, ⟨by have h_ := H'.out; rwa [show (c : Int) + 1 = ((c + 1 : Nat) : Int) by omega] at h_⟩, ⟨by simp [HN2.out.1], by have := HN2.out.2; simp; omega⟩⟩
        ·rw [if_neg hl] at H; cases H
      ·rw [if_neg hg] at H; cases H
/-- A machine in memory, and its rows. -/
def zk1 (W : World) (g : Nat) (tapes start : Int) (ac : List Bool) (ns : List (List Int)) : Prop :=
 ∃ Aa ca An cn, W.heap[g]? = some (.cells #[.int .i64 tapes, .int .i64 start, .slice Aa ac.length ca, .slice An ns.length cn] 64 (0, 0)) ∧ Kd.C Kd.bool W Aa ac.length ac ∧ Kd.C (Kd.slice 3 (Kd.int .i64)) W An ns.length ns
/-- A variable that holds a row of numbers. -/
def zy2 (W : World) (g : Nat) (l : List Int) : Prop :=
 ∃ A c, W.heap[g]? = some (.cells #[.slice A l.length c] 81 (0, 0)) ∧ Kd.C (Kd.int .i64) W A l.length l
theorem zk1.below {W W1 : World} {g : Nat} {tapes start : Int} {ac : List Bool} {ns : List (List Int)} (h : zk1 W g tapes start ac ns) (hb : Below W.heap.size W W1) : zk1 W1 g tapes start ac ns := by
 obtain ⟨Aa, ca, An, cn, h1, h2, h3⟩ := h; exact ⟨Aa, ca, An, cn, zf0 h1 hb, Kd.zv0 h2 hb, Kd.zv0 h3 hb⟩
theorem zy2.below {W W1 : World} {g : Nat} {l : List Int} (h : zy2 W g l) (hb : Below W.heap.size W W1) : zy2 W1 g l := by
 obtain ⟨A, c, h1, h2⟩ := h; exact ⟨A, c, zf0 h1 hb, Kd.zv0 h2 hb⟩
def accM (one : List Int) (ac : List Bool) (x : Int) : Option Bool := if 0 ≤ x then (if x < (one.length : Int) then (if 0 ≤ rd one x then (if rd one x < (ac.length : Int) then some (rdOf false ac (rd one x)) else none) else none) else none) else none
theorem zi2 {w : World} {gm go : Nat} {tapes start : Int} {ac : List Bool} {ns : List (List Int)} {one : List Int} (hm : zk1 w gm tapes start ac ns) (ho : zy2 w go one) :
  yp1 Tryd.prog w 146 #[.pointer (some ⟨gm, 0, none⟩), .pointer (some ⟨go, 0, none⟩)] (fun x : Int => #[.int .i64 x]) (accM one ac) Value.bool := by
 refine ⟨⟨_, Tryd.func146, by kernel_rfl, rfl⟩, fun x r W hb h => ?_⟩; obtain ⟨Aa, ca, An, cn, b1, hC1, hC2⟩ := hm.below hb; obtain ⟨Ao, co, b2, hCo⟩ := ho.below hb; clear hm ho hb; unfold accM at h; by_cases p0 : 0 ≤ x
 ·rw [if_pos p0] at h; by_cases q0 : x < (one.length : Int)
  ·rw [if_pos q0] at h; by_cases p1 : 0 ≤ rd one x
   ·rw [if_pos p1] at h; by_cases q1 : rd one x < (ac.length : Int)
    ·rw [if_pos q1] at h; obtain rfl := Option.some.inj h; clear h; obtain ⟨ad1, e1, hx1⟩ := Kd.yk0 hCo x p0 q0; obtain ⟨ad2, e2, hx2⟩ := Kd.ql0 hC1 (rd one x) p1 q1; subst e1; subst e2; obtain ⟨-, -, m2, -⟩ := bc4 b1; have v0 : W.cell? ⟨go, 0, none⟩ = some (.slice (some ad1) one.length co) := (zh0 b2 0).trans rfl; replace p0 := eq_true p0; replace q0 := eq_true q0; replace p1 := eq_true p1; replace q1 := eq_true q1; clear b1 b2 hC1 hC2 hCo; go_enter Tryd.func146, Tryd.ntmps146; go_wp2
     repeat (go_quiet (fail); try go_wp2)
     go_ret; exact ⟨rfl, by repeat (first | exact Below.refl _ _ | apply zg0 | apply ye0)⟩
    ·rw [if_neg q1] at h; cases h
   ·rw [if_neg p1] at h; cases h
  ·rw [if_neg q0] at h; cases h
 ·rw [if_neg p0] at h; cases h
def rdR (xs : List (List Int)) (i : Int) : List Int := xs.getD i.toNat []
theorem ym1 {e : TypeId} {w : World} {A : Option Addr} {n : Nat} {xs : List (List Int)} (h : Kd.C (Kd.slice e (Kd.int .i64)) w A n xs) (i : Int) (h0 : 0 ≤ i) (h1 : i < n) : ∃ ad A0 c0, A = some ad ∧ w.cell? (ad.add i.toNat) = some (.slice A0 (rdR xs i).length c0) ∧ (rdR xs i).length ≤ c0 ∧ (Kd.int .i64).C w A0 (rdR xs i).length (rdR xs i) := by
 obtain ⟨ad, c, e', _, ⟨A0, c0, rfl, hl, hC⟩, hc⟩ := Kd.zq4 h [] i h0 h1; have := hc 0 _ rfl; rw [show i.toNat * (Kd.slice e (Kd.int .i64)).sz + 0 = i.toNat by simp [show (Kd.slice e (Kd.int .i64)).sz = 1 from rfl]] at this; exact ⟨ad, A0, c0, e', this, hl, hC⟩
/-- A bounds-checked read. -/
def at1 {α : Type} (d : α) (xs : List α) (i : Int) : Option α := if 0 ≤ i ∧ i < (xs.length : Int) then some (rdOf d xs i) else none
def qe3 (group one : List Int) (ns : List (List Int)) (g c : Int) : Option Int :=
 (at1 0 one g).bind fun i => (at1 [] ns i).bind fun row => (at1 0 row c).bind fun j => at1 0 group j
theorem xp0 {α : Type} {d : α} {xs : List α} {i : Int} {r : α} (h : at1 d xs i = some r) : 0 ≤ i ∧ i < (xs.length : Int) ∧ r = rdOf d xs i := by
 unfold at1 at h
 split at h
 ·next hc => exact ⟨hc.1, hc.2, (Option.some.inj h).symm⟩
 ·cases h
theorem zh2 {w : World} {gm go gg : Nat} {tapes start : Int} {ac : List Bool} {ns : List (List Int)} {one group : List Int} (hm : zk1 w gm tapes start ac ns) (ho : zy2 w go one) (hg : zy2 w gg group) :
  yp1 Tryd.prog w 147 #[.pointer (some ⟨gg, 0, none⟩), .pointer (some ⟨gm, 0, none⟩), .pointer (some ⟨go, 0, none⟩)] (fun x : Int × Int => #[.int .i64 x.1, .int .i64 x.2]) (fun x => qe3 group one ns x.1 x.2) (Value.int .i64) := by
 refine ⟨⟨_, Tryd.func147, by kernel_rfl, rfl⟩, fun x r W hb h => ?_⟩; obtain ⟨Aa, ca, An, cn, b1, hC1, hC2⟩ := hm.below hb; obtain ⟨Ao, co, b2, hCo⟩ := ho.below hb; obtain ⟨Ag, cg, b3, hCg⟩ := hg.below hb; clear hm ho hg hb; obtain ⟨x, c⟩ := x; have h' : qe3 group one ns x c = some r := h; clear h; obtain ⟨i, h1, h⟩ := oB h'; obtain ⟨row, h2, h⟩ := oB h; obtain ⟨j, h3, h4⟩ := oB h; clear h' h; obtain ⟨p0, q0, ei⟩ := xp0 h1; obtain ⟨p1, q1, er⟩ := xp0 h2; obtain ⟨p2, q2, ej⟩ := xp0 h3; obtain ⟨p3, q3, eo⟩ := xp0 h4; clear h1 h2 h3 h4; obtain ⟨ad1, e1, hx1⟩ := Kd.yk0 hCo x p0 q0; obtain ⟨ad2, A2, c2, e2, hx2, hl2, hC3⟩ := ym1 hC2 i p1 q1; rw [show rdR ns i = row from er.symm] at hx2 hl2 hC3; obtain ⟨ad3, e3, hx3⟩ := Kd.yk0 hC3 c p2 q2; obtain ⟨ad4, e4, hx4⟩ := Kd.yk0 hCg j p3 q3; subst e1; subst e2; subst e3; subst e4; rw [show rd one x = i from ei.symm] at hx1; rw [show rd row c = j from ej.symm] at hx3; rw [show rd group j = r from eo.symm] at hx4; obtain ⟨-, -, -, m3⟩ := bc4 b1; have v0 : W.cell? ⟨go, 0, none⟩ = some (.slice (some ad1) one.length co) := (zh0 b2 0).trans rfl; have v1 : W.cell? ⟨gg, 0, none⟩ = some (.slice (some ad4) group.length cg) := (zh0 b3 0).trans rfl; clear b1 b2 b3 hC1 hC2 hC3 hCo hCg ei er ej eo; replace p0 := eq_true p0; replace q0 := eq_true q0; replace p1 := eq_true p1; replace q1 := eq_true q1; replace p2 := eq_true p2; replace q2 := eq_true q2; replace p3 := eq_true p3; replace q3 := eq_true q3; show Calls Tryd.prog 147 #[.int .i64 x, .int .i64 c, .pointer (some ⟨gg, 0, none⟩), .pointer (some ⟨gm, 0, none⟩), .pointer (some ⟨go, 0, none⟩)] W fun e W' => e = .returned (.int .i64 r) ∧ Below W.heap.size W W'; go_enter Tryd.func147, Tryd.ntmps147; go_wp2
 repeat (go_quiet (fail); try go_wp2)
 go_ret; exact ⟨rfl, by repeat (first | exact Below.refl _ _ | apply zg0 | apply ye0)⟩
def accT (ac : List Bool) (p : Int × Int) : Option Bool := if 0 ≤ p.2 then at1 false ac p.1 else some false
theorem jl3 {w : World} {gm : Nat} {tapes start : Int} {ac : List Bool} {ns : List (List Int)} (hm : zk1 w gm tapes start ac ns) :
  yp1 Tryd.prog w 139 #[.pointer (some ⟨gm, 0, none⟩)] (fun x : Int × Int => #[.agg #[.int .i64 x.1, .int .i64 x.2]]) (accT ac) Value.bool := by
 refine ⟨⟨_, Tryd.func139, by kernel_rfl, rfl⟩, fun x r W hb h => ?_⟩; obtain ⟨Aa, ca, An, cn, b1, hC1, hC2⟩ := hm.below hb; clear hm hb; obtain ⟨s, p⟩ := x; have h' : (if 0 ≤ p then at1 false ac s else some false) = some r := h; clear h; show Calls Tryd.prog 139 #[.agg #[.int .i64 s, .int .i64 p], .pointer (some ⟨gm, 0, none⟩)] W fun e W' => e = .returned (.bool r) ∧ Below W.heap.size W W'; by_cases c : 0 ≤ p
 ·rw [if_pos c] at h'; obtain ⟨p0, q0, e0⟩ := xp0 h'; obtain ⟨ad1, e1, hx1⟩ := Kd.ql0 hC1 s p0 q0; subst e1; rw [show rdOf false ac s = r from e0.symm] at hx1; obtain ⟨-, -, m2, -⟩ := bc4 b1; have m2' : (W.alloc (.cells #[.int .i64 s, .int .i64 p] 128)).cell? ⟨gm, 2, none⟩ = some (.slice (some ad1) ac.length ca) := zc0 (zx0 (Below.refl _ _) _) m2; have hx1' : (W.alloc (.cells #[.int .i64 s, .int .i64 p] 128)).cell? (ad1.add s.toNat) = some (.bool r) := zc0 (zx0 (Below.refl _ _) _) hx1; clear m2 hx1; have c1 : decide (p ≥ 0) = true := decide_eq_true c; have c2 : decide (0 ≤ p) = true := decide_eq_true c; clear b1 hC1 hC2 h' e0 c; replace p0 := eq_true p0; replace q0 := eq_true q0; go_enter Tryd.func139, Tryd.ntmps139; go_wp2
  repeat (go_quiet (fail); try go_wp2)
  go_ret; exact ⟨rfl, by repeat (first | exact Below.refl _ _ | apply zx0 | apply zg0 | apply ye0)⟩
 ·rw [if_neg c] at h'; obtain rfl := Option.some.inj h'; have c1 : decide (p ≥ 0) = false := decide_eq_false c; have c2 : decide (0 ≤ p) = false := decide_eq_false c; clear b1 hC1 hC2 h' c; go_enter Tryd.func139, Tryd.ntmps139; go_wp2
  repeat (go_quiet (fail); try go_wp2)
  go_ret; exact ⟨rfl, by repeat (first | exact Below.refl _ _ | apply zx0 | apply zg0 | apply ye0)⟩
def zf2 (pads : List Int) (ns : List (List Int)) (x : Int × Int) (c : Int) : Option (Int × Int) :=
 if x.2 < 0 then some (0, -1) else (at1 0 pads c).bind fun pc => if bits .andNot .i64 x.2 pc = 0 then ((at1 [] ns x.1).bind fun row => (at1 0 row c).bind fun q => some (q, pc)) else some (0, -1)
theorem jk3 {w : World} {gm gp : Nat} {tapes start : Int} {ac : List Bool} {ns : List (List Int)} {pads : List Int} (hm : zk1 w gm tapes start ac ns) (hp : zy2 w gp pads) :
  yp1 Tryd.prog w 140 #[.pointer (some ⟨gp, 0, none⟩), .pointer (some ⟨gm, 0, none⟩)] (fun x : (Int × Int) × Int => #[.agg #[.int .i64 x.1.1, .int .i64 x.1.2], .int .i64 x.2]) (fun x => zf2 pads ns x.1 x.2) (fun r : Int × Int => .agg #[.int .i64 r.1, .int .i64 r.2]) := by
 refine ⟨⟨_, Tryd.func140, by kernel_rfl, rfl⟩, fun x r W hb h => ?_⟩; obtain ⟨Aa, ca, An, cn, b1, hC1, hC2⟩ := hm.below hb; obtain ⟨Ap, cp, b2, hCp⟩ := hp.below hb; clear hm hp hb; obtain ⟨⟨s, p⟩, c⟩ := x; have h' : zf2 pads ns (s, p) c = some r := h; clear h; unfold zf2 at h'; show Calls Tryd.prog 140 #[.agg #[.int .i64 s, .int .i64 p], .int .i64 c, .pointer (some ⟨gp, 0, none⟩), .pointer (some ⟨gm, 0, none⟩)] W fun e W' => e = .returned (.agg #[.int .i64 r.1, .int .i64 r.2]) ∧ Below W.heap.size W W'; have HW : ∀ n, Below W.heap.size W (((W.alloc (.cells #[.int .i64 s, .int .i64 p] 128)).alloc (.cells #[.int .i64 0, .int .i64 0] 128)).drewN n) := fun n => zg0 (((Below.refl _ W).alloc (Nat.le_refl _) _).alloc (by simp) _) n; by_cases c0 : p < 0
 ·rw [if_pos c0] at h'; obtain rfl := Option.some.inj h'; have c1 : decide (p < 0) = true := decide_eq_true c0; clear h' c0 b1 b2 hC1 hC2 hCp; go_enter Tryd.func140, Tryd.ntmps140; go_wp2
  repeat (go_quiet (fail); try go_wp2)
  refine bodyPost_ret (v := .agg #[.int .i64 0, .int .i64 (-1)]) (by simp [results, Tryd.results140, go_sem]) rfl ⟨rfl, ?_⟩; exact ((HW _).setCell (by simp) _).setCell (by simp) _
 ·rw [if_neg c0] at h'; have c1 : decide (p < 0) = false := decide_eq_false c0; obtain ⟨pc, h1, h'⟩ := oB h'; obtain ⟨p0, q0, e0⟩ := xp0 h1; obtain ⟨ad4, e4, hx4⟩ := Kd.yk0 hCp c p0 q0; subst e4; rw [show rd pads c = pc from e0.symm] at hx4; clear h1 e0 c0; generalize hWE : ((W.alloc (.cells #[.int .i64 s, .int .i64 p] 128)).alloc (.cells #[.int .i64 0, .int .i64 0] 128)) = WE at HW; (have hbE : Below W.heap.size W WE := by rw [← hWE]; exact ((Below.refl _ W).alloc (Nat.le_refl _) _).alloc (by simp) _); have x4 : WE.cell? (ad4.add c.toNat) = some (.int .i64 pc) := zc0 hbE hx4; have v0 : WE.cell? ⟨gp, 0, none⟩ = some (.slice (some ad4) pads.length cp) := zc0 hbE ((zh0 b2 0).trans rfl); (have k0 : WE.heap[W.heap.size]? = some (.cells #[.int .i64 s, .int .i64 p] 128 (0, 0)) := by rw [← hWE]; exact yc0 (yt0 W _) _); (have k1 : WE.heap[W.heap.size + 1]? = some (.cells #[.int .i64 0, .int .i64 0] 128 (0, 0)) := by rw [← hWE]; have q_ := yt0 (W.alloc (.cells #[.int .i64 s, .int .i64 p] 128)) (.cells #[.int .i64 0, .int .i64 0] 128); simpa using q_); replace p0 := eq_true p0; replace q0 := eq_true q0; by_cases cz : bits .andNot .i64 p pc = 0
  ·rw [if_pos cz] at h'; obtain ⟨row, h2, h'⟩ := oB h'; obtain ⟨q, h3, h'⟩ := oB h'; obtain rfl := Option.some.inj h'; obtain ⟨p1, q1, e1⟩ := xp0 h2; obtain ⟨p2, q2, e2⟩ := xp0 h3; obtain ⟨ad2, A2, c2, e2', hx2, hl2, hC3⟩ := ym1 hC2 s p1 q1; rw [show rdR ns s = row from e1.symm] at hx2 hl2 hC3; obtain ⟨ad3, e3, hx3⟩ := Kd.yk0 hC3 c p2 q2; subst e2'; subst e3; rw [show rd row c = q from e2.symm] at hx3; have m3 : WE.cell? ⟨gm, 3, none⟩ = some (.slice (some ad2) ns.length cn) := zc0 hbE ((zh0 b1 3).trans rfl); have x2 : WE.cell? (ad2.add s.toNat) = some (.slice (some ad3) row.length c2) := zc0 hbE hx2; have x3 : WE.cell? (ad3.add c.toNat) = some (.int .i64 q) := zc0 hbE hx3; have c3 : (bits .andNot .i64 p pc != 0) = false := bne_eq_false_iff_eq.mpr cz; have y0 := (zh0 k0 0).trans rfl; replace y0 : WE.cell? ⟨W.heap.size, 0, none⟩ = some (.int .i64 s) := y0; have y1 : WE.cell? ⟨W.heap.size, 1, none⟩ = some (.int .i64 p) := (zh0 k0 1).trans rfl; replace p1 := eq_true p1; replace q1 := eq_true q1; replace p2 := eq_true p2; replace q2 := eq_true q2; clear h2 h3 h' e1 e2 hl2 hx2 hx3 hx4 hC1 hC2 hC3 hCp b1 b2 cz; go_enter Tryd.func140, Tryd.ntmps140; go_wp2
   try rw [hWE]
   repeat (go_quiet (fail); try go_wp2)
   have hd : Below WE.heap.size WE ((WE.drewN nq).drew) := ye0 (zg0 (Below.refl _ _) nq); have HE := am (HW nq); have K1 := am (zf0 k1 hd); have HD := am (show Below W.heap.size W ((WE.drewN nq).drew) from ye0 (HW nq)); refine qu0 (n := 15) (S := fun w' => w'.cell? ⟨gm, 3, none⟩ = some (.slice (some ad2) ns.length cn) ∧ w'.cell? ⟨W.heap.size, 0, none⟩ = some (.int .i64 s) ∧ w'.cell? (ad2.add s.toNat) = some (.slice (some ad3) row.length c2) ∧ w'.cell? (ad3.add c.toNat) = some (.int .i64 q) ∧ w'.cell? ⟨gp, 0, none⟩ = some (.slice (some ad4) pads.length cp) ∧ w'.cell? (ad4.add c.toNat) = some (.int .i64 pc)) (ds := [14]) #[false, false, false, false, false, false, false, false, false, false, false, false, false, false, false] (by kernel_rfl) rfl rfl ⟨zc0 hd m3, zc0 hd y0, zc0 hd x2, zc0 hd x3, zc0 hd v0, zc0 hd x4⟩ (fun hHeld => ?_); clear hd m3 y0 y1 x2 x3 v0 x4 k0 k1 hWE HW HE hbE
   generalize (WE.drewN nq).drew = w3 at K1 HD hHeld ⊢
   refine zz0 0 (some 21) (bl 15 1) rfl rfl (h := ?_); refine yo1 1 (some 22) (bl 15 3) hHeld rfl rfl (h := ?_); refine zz0 2 (some 23) (bl 15 7) rfl rfl (h := ?_); refine yo1 3 (some 24) (bl 15 15) hHeld rfl rfl (h := ?_); refine zz0 4 (some 25) (bl 15 31) rfl rfl (h := ?_); refine yo1 5 (some 26) (bl 15 63) hHeld rfl rfl (h := ?_); refine zz0 6 (some 27) (bl 15 127) rfl rfl (h := ?_); refine zz0 7 (some 28) (bl 15 255) rfl rfl (h := ?_); refine yo1 8 (some 29) (bl 15 511) hHeld rfl rfl (h := ?_); refine yo1 9 (some 30) (bl 15 1023) hHeld rfl rfl (h := ?_); refine zz0 10 (some 31) (bl 15 2047) rfl rfl (h := ?_); refine zz0 11 (some 32) (bl 15 4095) rfl rfl (h := ?_); refine yo1 12 (some 33) (bl 15 8191) hHeld rfl rfl (h := ?_); refine zz0 13 (some 34) (bl 15 16383) rfl rfl (h := ?_); refine jk1 (i := 14) (N := none) (bl 15 32767) rfl rfl (by kernel_rfl) (by decide) (fun K hK => ?_); have z0 : w3.cell? ⟨W.heap.size + 1, 0, none⟩ = some (.int .i64 0) := (zh0 K1.out 0).trans rfl; have z1 : w3.cell? ⟨W.heap.size + 1, 1, none⟩ = some (.int .i64 0) := (zh0 K1.out 1).trans rfl; have f0 := zb0 K1.out 0; have f1 := zb0 K1.out 1; refine qb1 (w1 := (w3.setCell ⟨W.heap.size + 1, 0, none⟩ (.int .i64 q)).setCell ⟨W.heap.size + 1, 1, none⟩ (.int .i64 pc)) (by rfl) rfl ?_ ?_
   ·go_simp
   refine hK.out _ _ ?_; clear hK K; refine kv0 (by kernel_rfl) ?_; go_wp2; refine bodyPost_ret (v := .agg #[.int .i64 q, .int .i64 pc]) (by simp [results, Tryd.results140, go_sem, z0, z1]) rfl ⟨rfl, ?_⟩; exact (HD.out.setCell (by simp) _).setCell (by simp) _
  ·rw [if_neg cz] at h'; obtain rfl := Option.some.inj h'; have c3 : (bits .andNot .i64 p pc != 0) = true := bne_iff_ne.mpr cz; have y1 : WE.cell? ⟨W.heap.size, 1, none⟩ = some (.int .i64 p) := (zh0 k0 1).trans rfl; have z0 : WE.cell? ⟨W.heap.size + 1, 0, none⟩ = some (.int .i64 0) := (zh0 k1 0).trans rfl; have z1 : WE.cell? ⟨W.heap.size + 1, 1, none⟩ = some (.int .i64 0) := (zh0 k1 1).trans rfl; have f0 := zb0 k1 0; have f1 := zb0 k1 1; clear h' hx4 hC1 hC2 hCp b1 b2 cz; go_enter Tryd.func140, Tryd.ntmps140; go_wp2
   try rw [hWE]
   repeat (go_quiet (fail); try go_wp2)
   refine bodyPost_ret (v := .agg #[.int .i64 0, .int .i64 (-1)]) (by simp [results, Tryd.results140, go_sem, z0, z1]) rfl ⟨rfl, ?_⟩; exact ((HW _).setCell (by simp) _).setCell (by simp) _
/-- One state's row: from column c on, m columns. -/
def yk2 (kd : Nat) (tapes size : Int) (rw : List Int) (li : Int) : Nat → Nat → List Int → List Int → List Int → Option (List Int × List Int × List Int)
 | 0, _, nu, l, row => some (nu, l, row)
 | m + 1, c, nu, l, row => (ym0.f kd tapes (Int.tmod li size) (c : Int)).bind fun e =>
  if e < 0 then yk2 kd tapes size rw li m (c + 1) nu l (row ++ [-1])
  else (at1 0 rw (c : Int)).bind fun q => (at1 0 nu (wrap64 (wrap64 (q * size) + e))).bind fun x =>
   if x < 0 then (if l.length < 1048576 then yk2 kd tapes size rw li m (c + 1) (nu.set (wrap64 (wrap64 (q * size) + e)).toNat (l.length : Int)) (l ++ [wrap64 (wrap64 (q * size) + e)]) (row ++ [(l.length : Int)]) else none)
   else yk2 kd tapes size rw li m (c + 1) nu l (row ++ [x])
def kz1 (kd : Nat) (tapes size : Int) (W : Nat) (ac : List Bool) (ns : List (List Int)) : Nat → List Int → List Int → List Bool → List (List Int) → Option (List Bool × List (List Int) × List Int)
 | 0, _, _, _, _ => none
 | f + 1, nu, l, bs, rs => match l[bs.length]? with
  | none => some (bs, rs, l)
  | some li => (at1 [] ns (wrap64 (Int.tdiv li size))).bind fun rw => (at1 false ac (wrap64 (Int.tdiv li size))).bind fun a => (yk2 kd tapes size rw li W 0 nu l []).bind fun p => kz1 kd tapes size W ac ns f p.1 p.2.1 (bs ++ [a]) (rs ++ [p.2.2])
def jk0 (dead : Int) (row : List Int) : List Int := row.map fun x => if x < 0 then dead else x
def jf2 (kd : Nat) (tapes size : Int) (W N f : Nat) (start : Int) (ac : List Bool) (ns : List (List Int)) : Option (List Bool × List (List Int)) :=
 if 0 ≤ wrap64 (start * size) ∧ wrap64 (start * size) < (N : Int) then
 (kz1 kd tapes size W ac ns f ((List.replicate N (-1)).set (wrap64 (start * size)).toNat 0) [wrap64 (start * size)] [] []).bind fun p =>
  some (p.1 ++ [false], p.2.1.map (jk0 (p.2.2.length : Int)) ++ [List.replicate W (p.2.2.length : Int)])
 else none
theorem yq3 {N i : Nat} (h : i < N) (l : List Int) (hl : l = List.replicate i (-1) ++ List.replicate (N - i) 0) : l.set i (-1) = List.replicate (i + 1) (-1) ++ List.replicate (N - (i + 1)) 0 := by
 subst hl; rw [show N - i = (N - (i + 1)) + 1 by omega, List.replicate_succ, List.replicate_succ']
 have key : ∀ (a b : List Int) (x y : Int) (n : Nat), a.length = n → (a ++ y :: b).set n x = a ++ x :: b := by
  intro a b x y n hn; subst hn; simp
 rw [key _ _ (-1) 0 i (by simp)]; simp
theorem qw0 {l : List Int} {i x : Int} (h0 : 0 ≤ i) (h1 : i < (l.length : Int)) : rd (l.set i.toNat x) i = x := by
 (have : i.toNat < l.length := by omega); simp [rd, List.getD_eq_getElem?_getD, this]
theorem kd0 {α : Type} {l d : List α} {i : Nat} {k : α} (h : l[i]? = some k) : (l ++ d)[i]? = some k := by
 rw [List.getElem?_append_left (List.getElem?_eq_some_iff.1 h).1]; exact h
/-- A list whose first elements are already turned. -/
def xl0 {α : Type} (f : α → α) (b : Nat) (l : List α) : List α := (l.take b).map f ++ l.drop b
theorem yh1 {α : Type} (f : α → α) (b : Nat) (l : List α) : (xl0 f b l).length = l.length := by
 simp [xl0]; omega
theorem ji1 {α : Type} (f : α → α) {b : Nat} {l : List α} (h : b < l.length) : (xl0 f b l)[b]? = some l[b] := by
 (have : ((l.take b).map f).length = b := by simp; omega); rw [xl0, List.getElem?_append_right (by omega), this, Nat.sub_self, List.getElem?_drop, Nat.add_zero, List.getElem?_eq_getElem h]
theorem xp1 {α : Type} (f : α → α) {b : Nat} {l : List α} (h : b < l.length) (x : α) (hx : x = f l[b]) : (xl0 f b l).set b x = xl0 f (b + 1) l := by
 have hl : ((l.take b).map f).length = b := by simp; omega
 have e : xl0 f (b + 1) l = (l.take b).map f ++ f l[b] :: l.drop (b + 1) := by
  rw [xl0, List.take_succ_eq_append_getElem h, List.map_append]; simp only [List.map_cons, List.map_nil, List.append_assoc, List.cons_append, List.nil_append]
 have e2 : xl0 f b l = (l.take b).map f ++ l[b] :: l.drop (b + 1) := by rw [xl0, List.drop_eq_getElem_cons h]
 have key : ∀ (a b : List α) (x y : α) (n : Nat), a.length = n → (a ++ y :: b).set n x = a ++ x :: b := by
  intro a b x y n hn; subst hn; simp
 rw [e, e2, key _ _ x _ b hl, hx]
theorem jj2 {α : Type} (f : α → α) {b : Nat} {l : List α} (h : b < l.length) (hx : f l[b] = l[b]) : xl0 f b l = xl0 f (b + 1) l := by
 rw [← xp1 f h _ rfl, hx]; refine (List.ext_getElem? fun i => ?_); rw [List.getElem?_set]; by_cases e : b = i
 ·subst e; rw [if_pos rfl, if_pos (by rw [yh1]; exact h), ji1 f h]
 ·rw [if_neg e]
theorem zd2 {α : Type} (f : α → α) (l : List α) : xl0 f l.length l = l.map f := by simp [xl0]
theorem jx1 {α : Type} (f : α → α) (l : List α) : xl0 f 0 l = l := by simp [xl0]
def fix1 (dead x : Int) : Int := if x < 0 then dead else x
theorem kt3 (dead : Int) (row : List Int) : jk0 dead row = row.map (fix1 dead) := rfl
theorem set_self {α : Type} {l : List α} {i : Nat} {x : α} (h : l[i]? = some x) : l.set i x = l := by
 refine List.ext_getElem? fun j => ?_; rw [List.getElem?_set]; by_cases e : i = j
 ·subst e; rw [if_pos rfl, if_pos (List.getElem?_eq_some_iff.1 h).1, h]
 ·rw [if_neg e]
def jb1 (w : World) (tapes : Int) (bs : List Bool) (rs : List (List Int)) (e : Ending) (w' : World) : Prop :=
 ∃ va vr, e = .returned (.agg #[.int .i64 tapes, .int .i64 0, va, vr]) ∧ Kd.bool.R 4 w' w.heap.size (fun _ => True) va bs ∧ Kd.S (Kd.slice 2 (Kd.int .i64)) 42 w' w.heap.size (fun _ => True) vr rs ∧ Below w.heap.size w w'
theorem za3 {W N f kd kw : Nat} {tapes start size : Int} {ac : List Bool} {ns : List (List Int)} {bs1 : List Bool} {rs1 : List (List Int)} (w : World) (g : Nat) (Aa : Option Addr) (ca : Nat) (An : Option Addr) (cn : Nat)
  (hb : w.heap[g]? = some (.cells #[.int .i64 tapes, .int .i64 start, .slice Aa ac.length ca, .slice An ns.length cn] 29 (0, 0))) (hA : Kd.C Kd.bool w Aa ac.length ac) (hN : Kd.C (Kd.slice 2 (Kd.int .i64)) w An ns.length ns)
  (hw : yv0.f kw tapes = some (W : Int)) (hW : W ≤ 1000) (hsz : IntKind.i64.wrap (2 ^ tapes.toNat) = size) (h0 : 0 ≤ tapes) (h3 : tapes ≤ 3) (h1 : 1 ≤ size) (h8 : size ≤ 8) (hn : wrap64 ((ac.length : Int) * size) = (N : Int)) (hN1 : N ≤ 1048576) (hac : ac.length ≤ 1048576) (h : jf2 kd tapes size W N f start ac ns = some (bs1, rs1)) :
  Calls Tryd.prog 110 #[.pointer (some ⟨g, 0, none⟩)] w (jb1 w tapes bs1 rs1) := by
 have HG := am hb; have HA := am hA; have HN := am hN; have HW := am hw; have HSz := am hsz; have HNn := am hn; unfold jf2 at h
 have hs : 0 ≤ wrap64 (start * size) ∧ wrap64 (start * size) < (N : Int) := by
  by_cases e : 0 ≤ wrap64 (start * size) ∧ wrap64 (start * size) < (N : Int)
  ·exact e
  ·rw [if_neg e] at h; cases h
 rw [if_pos hs] at h; obtain ⟨⟨bsF, rsF, lF⟩, hmain, h2⟩ := oB h; clear h; have HS := am hs; have HM := am hmain; have HH := am h2; clear hb hA hN hw hsz hn hs hmain h2; have HB := am ((Below.refl w.heap.size w).alloc (Nat.le_refl _) (.cells #[.int .i64 0, .int .i64 0, .slice none 0 0, .slice none 0 0] 29)); have HSp := am (show Sep (fun _ => 4) (w.alloc (.cells #[.int .i64 0, .int .i64 0, .slice none 0 0, .slice none 0 0] 29)) [(4, blkP w.heap.size (.cells #[.int .i64 0, .int .i64 0, .slice none 0 0, .slice none 0 0] 29 (0, 0)))] from ⟨⟨jp1 _ _, yt0 w _, rfl⟩, trivial⟩); have gb := yc0 HG.out (.cells #[.int .i64 0, .int .i64 0, .slice none 0 0, .slice none 0 0] 29); have m0 : (w.alloc (.cells #[.int .i64 0, .int .i64 0, .slice none 0 0, .slice none 0 0] 29)).cell? ⟨g, 0, none⟩ = some (.int .i64 tapes) := (zh0 gb 0).trans rfl; have m2 : (w.alloc (.cells #[.int .i64 0, .int .i64 0, .slice none 0 0, .slice none 0 0] 29)).cell? ⟨g, 2, none⟩ = some (.slice Aa ac.length ca) := (zh0 gb 2).trans rfl; clear gb; have hN8 := am (show (N : Int).toNat * 8 ≤ 281474976710656 by omega); have hN0 := am (show (0 : Int) ≤ (N : Int) by omega); have hq := am (show w.heap.size + 1 ≤ (w.alloc (.cells #[.int .i64 0, .int .i64 0, .slice none 0 0, .slice none 0 0] 29)).heap.size by simp); have c0 : (0 ≤ (N : Int)) = True := eq_true (by omega); go_enter Tryd.func110, Tryd.ntmps110; have hsz := HSz.out
 go_wp2_with (first | ((with_reducible refine yi0 (N := 34) rfl ?_); refine Kd.zi1 (Kd.int .i64) (w0 := w) w.heap.size 2 rfl (N := 34) rfl 42 _ _ rfl (wrap64 ((ac.length : Int) * size)) rfl rfl Tryd.underlying42 (.int .i64 0) 8 yj1 rfl (by decide) (by decide) 0 (ok := fun k => w.heap.size + 1 ≤ k) (okp := fun _ => False) rfl (fun _ hk => hk.elim) hq.out (by rw [HNn.out]; exact hN0.out) (by rw [HNn.out]; exact hN8.out) HB.out HB.out.size ?_; intro v34 w4 ho hb hg_ hnew_; rw [HNn.out] at ho; obtain ⟨A34, c34, hv34⟩ := Kd.zq0 ho; subst hv34; have HO := am ho; have HG4 := am hg_; have HB4 := am hb; clear hg_ hnew_ ho hb))
 have HS2 := am (HSp.out.new (t := 1) (xm1 HG4.out) (kj0 (Kd.int .i64) 2 w.heap.size (.slice A34 N c34) (List.replicate N 0)) (by have h_ := HO.out; simp only [List.length_replicate, Int.toNat_natCast] at h_; exact Kd.yl0 h_ (fun k hk => by simpa using hk)) rfl); simp only [List.cons_append, List.nil_append] at HS2; clear HSp HB HO HG4 m0 m2 hq hN0 hN8 c0
 go_loopg [6] N (fun kq v6 w' => ∃ (own : Nat → Nat) (i : Nat) (nu : List Int), v6 = .int .i64 (i : Int) ∧ zd0 (i + kq = N) ∧ zd0 (nu = List.replicate i (-1) ++ List.replicate (N - i) 0) ∧ zd0 (Below w.heap.size w w') ∧ zd0 (Sep own w' [(4, blkP w.heap.size (.cells #[.int .i64 0, .int .i64 0, .slice none 0 0, .slice none 0 0] 29 (0, 0))), (1, rowP (Kd.int .i64) 2 w.heap.size (.slice A34 N c34) nu)]))
 case atStart => exact ⟨_, 0, List.replicate N 0, rfl, ⟨by omega⟩, ⟨by simp⟩, HB4, HS2⟩
 case round =>
  clear HS2 HB4; obtain ⟨own, i, nu, rfl, HK, HE, HB, HSp⟩ := hrel
  cases gk with
  | zero =>
   (have hi : i = N := by have := HK.out; omega); subst hi; (have hnu : nu = List.replicate i (-1) := by have h_ := HE.out; simpa using h_); have c1 : decide ((i : Int) < (i : Int)) = false := decide_eq_false (by omega); have c2 : decide (i < i) = false := decide_eq_false (by omega); subst hnu; clear HE HK; have hs := HS.out; obtain ⟨gN, cN, hv, hcN, hfN⟩ := HSp.out.int 1 rfl (wrap64 (start * size)) hs.1 (by simpa using hs.2); simp only [Value.slice.injEq] at hv; obtain ⟨hv1, -, hv2⟩ := hv; subst hv1; subst hv2; have gb := zf0 HG.out HB.out; have m1 : wr.cell? ⟨g, 1, none⟩ = some (.int .i64 start) := (zh0 gb 1).trans rfl; have hbase := Kd.ju0 (HSp.out.get (i := 1) rfl) gN rfl; have hb1 : Below wr.heap.size wr (wr.alloc (.cells #[.int .i64 (wrap64 (start * size))] 2)) := (Below.refl _ _).alloc (Nat.le_refl _) _; have m1' := zc0 hb1 m1; have hcN' := zc0 hb1 hcN
   have hfN' : (wr.alloc (.cells #[.int .i64 (wrap64 (start * size))] 2)).frozen? ⟨gN, (wrap64 (start * size)).toNat, none⟩ = false := by
    rw [hb1.frozen (p := ⟨gN, _, none⟩) (Kd.R_lt (HSp.out.get (i := 1) rfl) gN rfl)]; exact hfN
   have HS1 := am ((HSp.out.new (t := 2) hb1 (kj0 (Kd.int .i64) 2 w.heap.size (.slice (some ⟨wr.heap.size, 0, none⟩) 1 1) [wrap64 (start * size)]) (zl4 (d := Kd.int .i64) wr (wrap64 (start * size)) [.int .i64 (wrap64 (start * size))] _ rfl rfl HB.out.size (Nat.le_refl _)) rfl).setInt 1 rfl (wrap64 (start * size)) 0 rfl); have HB1 := am ((HB.out.alloc HB.out.size (.cells #[.int .i64 (wrap64 (start * size))] 2)).setCell (p := ⟨gN, (wrap64 (start * size)).toNat, none⟩) hbase (.int .i64 0)); have gb1 := zf0 HG.out HB1.out; have m0 : ((wr.alloc (.cells #[.int .i64 (wrap64 (start * size))] 2)).setCell ⟨gN, (wrap64 (start * size)).toNat, none⟩ (.int .i64 0)).cell? ⟨g, 0, none⟩ = some (.int .i64 tapes) := (zh0 gb1 0).trans rfl; have s0 := eq_true hs.1; have s1 := eq_true hs.2; clear gb hs hb1 hcN hfN gb1 hbase; go_wp2; (have hsz1 : ((wr.alloc (.cells #[.int .i64 (wrap64 (start * size))] 2)).setCell ⟨gN, (wrap64 (start * size)).toNat, none⟩ (.int .i64 0)).heap.size = wr.heap.size + 1 := by simp); have hob := am (show w.heap.size + 1 ≤ wr.heap.size + 1 by have := HB.out.size; omega); have HS2 := am (((HS1.out.new (t := 5) ((Below.refl _ _).alloc (Nat.le_refl _) (.cells #[.int .i64 tapes, .int .i64 0, .slice none 0 0, .slice none 0 0] 29)) (jp1 (wr.heap.size + 1) (.cells #[.int .i64 tapes, .int .i64 0, .slice none 0 0, .slice none 0 0] 29 (0, 0))) (by rw [← hsz1]; exact ⟨yt0 _ _, Nat.le_refl _⟩) rfl).snoc (t := 6) (kj0 Kd.bool 4 w.heap.size (.slice none 0 0) []) (Kd.zm1 _ _ _ _ _)).snoc (t := 7) (qg1 (Kd.slice 2 (Kd.int .i64)) 42 w.heap.size (.slice none 0 0) []) (Kd.jr1 _ _ _ _ _)); have HB2 := am (HB1.out.alloc HB1.out.size (.cells #[.int .i64 tapes, .int .i64 0, .slice none 0 0, .slice none 0 0] 29)); simp only [List.cons_append, List.nil_append, List.set_cons_succ, List.set_cons_zero] at HS2; have hnl := am (show ((List.replicate i (-1 : Int)).set (wrap64 (start * size)).toNat 0).length = i by simp); clear HS1 HB1 HSp HB m0 m1 m1' hcN' hfN' hsz1 s0 s1 c1 c2
   generalize (World.alloc (World.setCell _ _ _) _) = W1 at HS2 HB2 ⊢
   generalize wr.heap.size + 1 = ob at HS2 hob ⊢
   generalize (Value.slice (some ⟨wr.heap.size, 0, none⟩) 1 1) = v7 at HS2 ⊢
   generalize (List.replicate i (-1 : Int)).set (wrap64 (start * size)).toNat 0 = nu at HS2 HM hnl
   try clear wr
   go_loopg [7, 9] f (fun kq v7 v9 w' => ∃ (own : Nat → Nat) (nu l : List Int) (va : Value) (bs : List Bool) (vr : Value) (rs : List (List Int)), v9 = .int .i64 (bs.length : Int) ∧ zd0 (Below w.heap.size w w') ∧ zd0 (Sep own w' [(4, blkP w.heap.size (.cells #[.int .i64 0, .int .i64 0, .slice none 0 0, .slice none 0 0] 29 (0, 0))), (1, rowP (Kd.int .i64) 2 w.heap.size (.slice (some ⟨gN, 0, none⟩) i c34) nu), (2, rowP (Kd.int .i64) 2 w.heap.size v7 l), (5, blkP ob (.cells #[.int .i64 tapes, .int .i64 0, va, vr] 29 (0, 0))), (6, rowP Kd.bool 4 w.heap.size va bs), (7, yr1 (Kd.slice 2 (Kd.int .i64)) 42 w.heap.size vr rs)]) ∧ zd0 (kz1 kd tapes size W ac ns kq nu l bs rs = some (bsF, rsF, lF)) ∧ zd0 (rs.length = bs.length ∧ nu.length = i ∧ l.length ≤ 1048576 ∧ bs.length ≤ l.length ∧ ∀ r_ ∈ rs, r_.length = W))
   case atStart => exact ⟨_, nu, [wrap64 (start * size)], _, [], _, [], rfl, HB2, HS2, HM, ⟨rfl, hnl.out, by simp, by simp, by simp⟩⟩
   case round =>
    clear HB2 HS2 HM hnl; obtain ⟨own, nu, l, va, bs, vr, rs, rfl, HB, HSp, HM, HLn⟩ := hrel
    cases gk with
    | zero => exact absurd HM.out (by simp [kz1])
    | succ k1 =>
     have hm := HM.out; clear HM; simp only [kz1] at hm
     cases hk : l[bs.length]? with
     | none =>
      rw [hk] at hm; have hle : l.length ≤ bs.length := List.getElem?_eq_none_iff.1 hk; (obtain ⟨rfl, rfl, rfl⟩ : bs = bsF ∧ rs = rsF ∧ l = lF := by simpa using hm); have c1 : decide ((bs.length : Int) < (l.length : Int)) = false := decide_eq_false (by omega); have c2 : decide (bs.length < l.length) = false := decide_eq_false (by omega); obtain ⟨A7, c7, hv7⟩ := Kd.zq0 (HSp.out.get (i := 2) rfl); subst hv7; have HLe := am hle; clear hm hk hle; go_wp2; have HSp2 := am ((HSp.out.drop 1).drop 1); simp only [List.eraseIdx_cons_succ, List.eraseIdx_cons_zero] at HSp2; clear HSp c1 c2; obtain ⟨Ar, cr, hvr⟩ := Kd.xc0 (HSp2.out.get (i := 3) rfl); subst hvr; (have hrl : rs.length < 1048577 := by have h1_ := HLn.out; have h2_ := HLe.out; omega)
      go_loopg [16] rs.length (fun kq v16 w' => ∃ a : Nat, v16 = .int .i64 (a : Int) ∧ zd0 (a + kq = rs.length) ∧ zd0 (Below w.heap.size w w') ∧ zd0 (Sep own w' [(4, blkP w.heap.size (.cells #[.int .i64 0, .int .i64 0, .slice none 0 0, .slice none 0 0] 29 (0, 0))), (5, blkP ob (.cells #[.int .i64 tapes, .int .i64 0, va, .slice Ar rs.length cr] 29 (0, 0))), (6, rowP Kd.bool 4 w.heap.size va bs), (7, yr1 (Kd.slice 2 (Kd.int .i64)) 42 w.heap.size (.slice Ar rs.length cr) (xl0 (jk0 (l.length : Int)) a rs))]))
      case atStart => exact ⟨0, by simp, ⟨by omega⟩, HB, ⟨by rw [jx1]; exact HSp2.out⟩⟩
      case round =>
       clear HB HSp2; obtain ⟨a, rfl, HK, HB, HSp⟩ := hrel; have m3 : wr.cell? ⟨ob, 3, none⟩ = some (.slice Ar rs.length cr) := (zh0 (HSp.out.get (i := 1) rfl).1 3).trans rfl
       cases gk with
       | zero =>
        (have ha : a = rs.length := by have := HK.out; omega); subst ha; have c1 : decide ((rs.length : Int) < (rs.length : Int)) = false := decide_eq_false (by omega); have c2 : decide (rs.length < rs.length) = false := decide_eq_false (by omega); rw [zd2] at HSp; clear HK; have gb := zf0 HG.out HB.out; have m0 : wr.cell? ⟨g, 0, none⟩ = some (.int .i64 tapes) := (zh0 gb 0).trans rfl; go_wp2; have hb1 : Below wr.heap.size wr (wr.alloc (.cells #[] 2)) := (Below.refl _ _).alloc (Nat.le_refl _) _; have HS1 := am (HSp.out.new (t := 3) hb1 (kj0 (Kd.int .i64) 2 w.heap.size (.slice (some ⟨wr.heap.size, 0, none⟩) 0 0) []) (yc2 (Kd.int .i64) 2 w.heap.size wr _ HB.out.size (Nat.le_refl _)) rfl); have HB1 := am (zn0 HB.out HB.out.size hb1); simp only [List.cons_append, List.nil_append] at HS1; clear hb1 HSp HB gb m0 m3 c1 c2
        go_loopg [18, 19] W (fun kq v18 v19 w' => ∃ (own : Nat → Nat) (c : Nat), v19 = .int .i64 (c : Int) ∧ zd0 (c + kq = W) ∧ zd0 (Below w.heap.size w w') ∧ zd0 (Sep own w' [(4, blkP w.heap.size (.cells #[.int .i64 0, .int .i64 0, .slice none 0 0, .slice none 0 0] 29 (0, 0))), (5, blkP ob (.cells #[.int .i64 tapes, .int .i64 0, va, .slice Ar rs.length cr] 29 (0, 0))), (6, rowP Kd.bool 4 w.heap.size va bs), (7, yr1 (Kd.slice 2 (Kd.int .i64)) 42 w.heap.size (.slice Ar rs.length cr) (rs.map (jk0 (l.length : Int)))), (3, rowP (Kd.int .i64) 2 w.heap.size v18 (List.replicate c (l.length : Int)))]))
        case atStart => exact ⟨_, 0, rfl, ⟨by omega⟩, HB1, HS1⟩
        case round =>
         clear HB1 HS1; obtain ⟨own, c, rfl, HK, HB, HSp⟩ := hrel; have gb := zf0 HG.out HB.out; have m0 : wr.cell? ⟨g, 0, none⟩ = some (.int .i64 tapes) := (zh0 gb 0).trans rfl; clear gb; have hlt1 : l.length ≤ 1048576 := HLn.out.2.2.1
         cases gk with
         | zero =>
          (have hc : c = W := by have := HK.out; omega); subst hc; have c1 : decide ((c : Int) < (c : Int)) = false := decide_eq_false (by omega); have c2 : decide (c < c) = false := decide_eq_false (by omega)
          go_wp2_with (fail)
          (with_reducible refine (yv0.calls kw tapes (c : Int) _ HW.out).mono ?_); rintro e w5 ⟨rfl, hd5⟩; obtain ⟨m5, hw5⟩ := hd5.out; have hb5 := zg0 (Below.refl wr.heap.size wr) m5; rw [← hw5] at hb5; have HSp5 := am (HSp.out.below hb5); have HB5 := am (zn0 HB.out HB.out.size hb5); clear hw5 hb5 hd5 m0 HSp HB HK; obtain ⟨A6, c6, hv6⟩ := Kd.zq0 (HSp5.out.get (i := 2) rfl); subst hv6; obtain ⟨A18, c18, hv18⟩ := Kd.zq0 (HSp5.out.get (i := 4) rfl); rw [List.length_replicate] at hv18; subst hv18; have m2 : w5.cell? ⟨ob, 2, none⟩ = some (.slice A6 bs.length c6) := (zh0 (HSp5.out.get (i := 1) rfl).1 2).trans rfl; (have hbl : bs.length ≤ 1048576 := by have := HLn.out.2.2.2.1; omega); have hba : Below w5.heap.size w5 (w5.alloc (.cells #[.bool false] 4)) := (Below.refl _ _).alloc (Nat.le_refl _) _
          go_upto_region 44 with (first | ((with_reducible refine yf0 (b := .append) (xs := #[.tmp 207, .tmp 208]) rfl ?_); at_builtin; refine Kd.xk0 Kd.bool (w0 := w) w.heap.size rfl (.tmp 207) (.tmp 208) 22 4 (.bool false) 1 rfl Tryd.underlying22 yq2 rfl (by decide) (by decide) (.slice A6 bs.length c6) bs false [.bool false] _ (fun _ => False) rfl rfl ?aP (fun _ hk => hk.elim) ?aF (HSp5.out.rowTag 2 rfl) ?aB ?aS ?aL ?_; (case aP => exact rfl); (case aF => exact (fun _ hk => yw0 hk)); (case aB => exact HB5.out); (case aS => exact HB5.out.size); (case aL => omega); intro v6 w6 ho hb hg hat; obtain ⟨A7, c7_, hv7⟩ := Kd.zq0 ho; subst hv7; have HSp6 := am (HSp5.out.appended 2 rfl ho hg rfl); have HB6 := am hb; simp only [List.set_cons_succ, List.set_cons_zero] at HSp6; have k2 : w6.cell? ⟨ob, 2, none⟩ = some (.slice A6 bs.length c6) := (zh0 (HSp6.out.get (i := 1) rfl).1 2).trans rfl; have f2 := zb0 (HSp6.out.get (i := 1) rfl).1 2; clear ho hb hg hat HSp5 HB5 m2))
          have HSp7 := am (HSp6.out.setBlk 1 rfl 2 (.slice A7 (bs ++ [false]).length c7_) rfl rfl); have HB7 := am (HB6.out.setCell (p := ⟨ob, 2, none⟩) (by have := hob.out; show w.heap.size ≤ ob; omega) (.slice A7 (bs ++ [false]).length c7_)); simp only [List.set_cons_succ, List.set_cons_zero] at HSp7; rw [show (bs ++ [false]).length = bs.length + 1 by simp] at HSp7 HB7
          try rw [show (bs ++ [false]).length = bs.length + 1 by simp]
          clear HSp6 HB6 k2 f2 hba
          generalize w6.setCell _ _ = w7 at HSp7 HB7 ⊢
          have m3 : w7.cell? ⟨ob, 3, none⟩ = some (.slice Ar rs.length cr) := (zh0 (HSp7.out.get (i := 1) rfl).1 3).trans rfl; have HSp8 := am (HSp7.out.drop 4); have HRw3 := am (HSp7.out.rowTag2 4 rfl 7); simp only [List.eraseIdx_cons_succ, List.eraseIdx_cons_zero] at HSp8; clear HSp7; (have hml : (rs.map (jk0 (l.length : Int))).length = rs.length := by simp); have HML := am hml; clear hml
          go_upto_region 45 with (first | ((with_reducible refine yf0 (b := .append) (xs := #[.tmp 212, .tmp 214]) rfl ?_); at_builtin; refine Kd.zt1 (Kd.slice 2 (Kd.int .i64)) (w0 := w) w.heap.size rfl (.tmp 212) (.tmp 214) 23 42 (.slice none 0 0) 24 rfl Tryd.underlying23 jx2 rfl (by decide) (by decide) (.slice Ar rs.length cr) (rs.map (jk0 (l.length : Int))) (List.replicate c (l.length : Int)) [.slice A18 c c18] _ _ rfl rfl ?aP ?aK ?aF (HSp8.out.rowsTag (u := 3) 3 rfl (by decide)) ?aB ?aS ?aL ?_; (case aP => exact ⟨_, rfl, HRw3.out⟩); (case aK => intro k hk; exact ⟨Or.inr hk, fun he => by have h_ := (Kd.S_R (HSp8.out.rowsTag (u := 3) 3 rfl (by decide))).1 k he.symm; exact h_.2 hk⟩); (case aF => exact (fun _ hk => Or.inl (yw0 hk))); (case aB => exact HB7.out); (case aS => exact HB7.out.size); (case aL => have := HML.out; omega); intro v8 w8 ho hb hg hat; obtain ⟨A10, c10, hv10⟩ := Kd.xc0 ho; subst hv10; have HSp9 := am (HSp8.out.appendedRows (u := 3) 3 rfl ho hg rfl rfl); simp only [List.set_cons_succ, List.set_cons_zero] at HSp9; have HB9 := am hb; have m8 : w8.cell? ⟨ob, 3, none⟩ = some (.slice Ar rs.length cr) := (zh0 (HSp9.out.get (i := 1) rfl).1 3).trans rfl; have f8 := zb0 (HSp9.out.get (i := 1) rfl).1 3; clear ho hb hg hat HSp8 HRw3 m3 HB7))
          have HSpA := am (HSp9.out.setBlk 1 rfl 3 (.slice A10 (rs.map (jk0 (l.length : Int)) ++ [List.replicate c (l.length : Int)]).length c10) rfl rfl); have HBA := am (HB9.out.setCell (p := ⟨ob, 3, none⟩) (by have := hob.out; show w.heap.size ≤ ob; omega) (.slice A10 (rs.map (jk0 (l.length : Int)) ++ [List.replicate c (l.length : Int)]).length c10)); simp only [List.set_cons_succ, List.set_cons_zero] at HSpA; (have hlen : (rs.map (jk0 (l.length : Int)) ++ [List.replicate c (l.length : Int)]).length = rs.length + 1 := by simp); rw [hlen] at HSpA HBA; clear HSp9 HB9 m8 f8 hlen
          generalize w8.setCell _ _ = w9 at HSpA HBA ⊢
          have b9 := (HSpA.out.get (i := 1) rfl).1; have r9 := (HSpA.out.get (i := 0) rfl).1; obtain ⟨g0, g1, g2, g3⟩ := bc4 b9; obtain ⟨n0, n1, n2, n3⟩ := bc4 r9; obtain ⟨f0, f1, f2, f3⟩ := bf4 r9; have HRA := am (kc1 (HSpA.out.get (i := 2) rfl) r9 (by decide) (.int .i64 tapes) (.int .i64 0) (.slice A7 (bs.length + 1) c7_) (.slice A10 (rs.length + 1) c10)); have HRB := am (kb1 (HSpA.out.get (i := 3) rfl) r9 (by decide) (.int .i64 tapes) (.int .i64 0) (.slice A7 (bs.length + 1) c7_) (.slice A10 (rs.length + 1) c10)); have HBB := am (jt0 HBA.out (Nat.le_refl _) (.int .i64 tapes) (.int .i64 0) (.slice A7 (bs.length + 1) c7_) (.slice A10 (rs.length + 1) c10)); obtain ⟨e1, e2⟩ := Prod.mk.inj (Option.some.inj HH.out)
          try simp only at e1 e2
          have HE1 := am e1; have HE2 := am e2; clear e1 e2 b9 r9 HSpA HBA; go_wp2; refine bodyPost_ret (v := .agg #[.int .i64 tapes, .int .i64 0, .slice A7 (bs.length + 1) c7_, .slice A10 (rs.length + 1) c10]) (by simp [results, Tryd.results110, go_sem, n0, n1, n2, n3]) rfl ⟨_, _, rfl, by rw [← HE1.out]; exact Kd.yl0 HRA.out (fun _ _ => trivial), by rw [← HE2.out]; exact Kd.qh0 HRB.out (fun _ _ => trivial), HBB.out⟩
         | succ k1 =>
          (have hc : c < W := by have := HK.out; omega); have c1 : decide ((c : Int) < (W : Int)) = true := decide_eq_true (by omega); have c2 : decide (c < W) = true := decide_eq_true (by omega); (have hc1000 : c < 1000 := by omega)
          go_wp2_with (fail)
          (with_reducible refine (yv0.calls kw tapes (W : Int) _ HW.out).mono ?_); rintro e w5 ⟨rfl, hd5⟩; obtain ⟨m5, hw5⟩ := hd5.out; have hb5 := zg0 (Below.refl wr.heap.size wr) m5; rw [← hw5] at hb5; have HSp6 := am (HSp.out.below hb5); have HB6 := am (zn0 HB.out HB.out.size hb5); clear hw5 hb5 hd5 m0 HSp HB; obtain ⟨A18, c18, hv18⟩ := Kd.zq0 (HSp6.out.get (i := 4) rfl); subst hv18
          go_wp2_with (first | ((with_reducible refine yf0 (b := .append) (xs := #[.tmp 202, .tmp 204]) rfl ?_); at_builtin; refine Kd.xk0 (Kd.int .i64) (w0 := w) w.heap.size rfl (.tmp 202) (.tmp 204) 42 2 (.int .i64 0) 8 rfl Tryd.underlying42 yj1 rfl (by decide) (by decide) (.slice A18 (List.replicate c (l.length : Int)).length c18) (List.replicate c (l.length : Int)) (l.length : Int) [.int .i64 (l.length : Int)] _ (fun _ => False) (by first | rfl | (simp; rfl)) rfl ?aP (fun _ hk => hk.elim) ?aF (HSp6.out.rowTag 4 rfl) ?aB ?aS ?aL ?_; (case aP => exact rfl); (case aF => exact (fun _ hk => yw0 hk)); (case aB => exact HB6.out); (case aS => exact HB6.out.size); (case aL => simp; omega); intro v_r w_r ho hb hg hat; have HSp_r := am (HSp6.out.appended 4 rfl ho hg rfl); have HB_r := am hb; simp only [List.set_cons_succ, List.set_cons_zero] at HSp_r; clear ho hb hg hat HSp6 HB6))
          go_roundg k1
          case measure => omega
          case rel => exact ⟨_, c + 1, by go_num, ⟨by have := HK.out; omega⟩, HB_r, by rw [List.replicate_succ']; exact HSp_r⟩
       | succ k1 =>
        (have ha : a < rs.length := by have := HK.out; omega); have c1 : decide ((a : Int) < (rs.length : Int)) = true := decide_eq_true (by omega); have c2 : decide (a < rs.length) = true := decide_eq_true (by omega); go_wp2; clear m3 c1 c2; have HR := am (show xl0 (jk0 (l.length : Int)) a rs = (xl0 (jk0 (l.length : Int)) a rs).set a (xl0 (fix1 (l.length : Int)) 0 rs[a]) by rw [jx1]; exact (set_self (ji1 _ ha)).symm)
        go_loopg [17] rs[a].length (fun kq v17 w' => ∃ b : Nat, v17 = .int .i64 (b : Int) ∧ zd0 (b + kq = rs[a].length) ∧ zd0 (Below w.heap.size w w') ∧ zd0 (Sep own w' [(4, blkP w.heap.size (.cells #[.int .i64 0, .int .i64 0, .slice none 0 0, .slice none 0 0] 29 (0, 0))), (5, blkP ob (.cells #[.int .i64 tapes, .int .i64 0, va, .slice Ar rs.length cr] 29 (0, 0))), (6, rowP Kd.bool 4 w.heap.size va bs), (7, yr1 (Kd.slice 2 (Kd.int .i64)) 42 w.heap.size (.slice Ar rs.length cr) ((xl0 (jk0 (l.length : Int)) a rs).set a (xl0 (fix1 (l.length : Int)) b rs[a])))]))
        case atStart => exact ⟨0, by simp, ⟨by omega⟩, HB, ⟨by rw [← HR.out]; exact HSp.out⟩⟩
        case round =>
         clear HB HSp HR; obtain ⟨b, rfl, HKb, HB, HSp⟩ := hrel; (have hll : ((xl0 (jk0 (l.length : Int)) a rs).set a (xl0 (fix1 (l.length : Int)) b rs[a])).length = rs.length := by rw [List.length_set, yh1])
         have hra : rowAt ((xl0 (jk0 (l.length : Int)) a rs).set a (xl0 (fix1 (l.length : Int)) b rs[a])) (a : Int) = xl0 (fix1 (l.length : Int)) b rs[a] := by
          simp [rowAt, List.getD_eq_getElem?_getD, List.getElem?_set, yh1, ha]
         obtain ⟨gq, cq, v2, hv, hcell, ⟨Av, cv, hv2⟩, hrest⟩ := jo3 (HSp.out.get (i := 3) rfl) (a : Int) (by omega) (by rw [hll]; omega); rw [hra] at hv2 hrest; simp only [Value.slice.injEq] at hv; obtain ⟨hva, -, hvc⟩ := hv; subst hva; subst hvc; subst hv2; rw [yh1] at hcell hrest; simp only [Int.toNat_natCast] at hcell; have m3 : wr.cell? ⟨ob, 3, none⟩ = some (.slice (some ⟨gq, 0, none⟩) rs.length cr) := (zh0 (HSp.out.get (i := 1) rfl).1 3).trans rfl; have p1 : (a < rs.length) = True := eq_true ha
         cases gk with
         | zero =>
          (have hb : b = rs[a].length := by have := HKb.out; omega); subst hb; have c1 : decide ((rs[a].length : Int) < (rs[a].length : Int)) = false := decide_eq_false (by omega); have c2 : decide (rs[a].length < rs[a].length) = false := decide_eq_false (by omega); have HE := am (show (xl0 (jk0 (l.length : Int)) a rs).set a (xl0 (fix1 (l.length : Int)) rs[a].length rs[a]) = xl0 (jk0 (l.length : Int)) (a + 1) rs by rw [zd2, ← kt3]; exact xp1 _ ha _ rfl); clear hrest hll hra HKb; go_wp2; go_roundg k1
          case measure => omega
          case rel => exact ⟨a + 1, by go_num, ⟨by have := HK.out; omega⟩, HB, ⟨by rw [← HE.out]; exact HSp.out⟩⟩
         | succ k2 =>
          (have hb : b < rs[a].length := by have := HKb.out; omega); have c1 : decide ((b : Int) < (rs[a].length : Int)) = true := decide_eq_true (by omega); have c2 : decide (b < rs[a].length) = true := decide_eq_true (by omega); obtain ⟨g2, cq2, hv, hc2, hf2, hok2, hba2, hset⟩ := hrest (b : Int) (by omega) (by omega); simp only [Value.slice.injEq] at hv; obtain ⟨hva, -, hvc⟩ := hv; subst hva; subst hvc
          have erd : rd (xl0 (fix1 (l.length : Int)) b rs[a]) (b : Int) = rs[a][b] := by
           have h_ := ji1 (fix1 (l.length : Int)) hb; simp [rd, List.getD_eq_getElem?_getD, h_]
          rw [erd] at hc2; simp only [Int.toNat_natCast] at hc2 hf2 hset; have q1 : (b < rs[a].length) = True := eq_true hb; (have hrb : rs[a].length < 1048577 := by have h_ := HLn.out.2.2.2.2 rs[a] (List.getElem_mem ha); omega); by_cases hx : rs[a][b] < 0
          ·have d2 : decide (rs[a][b] < 0) = true := decide_eq_true hx; have HE := am (show (xl0 (fix1 (l.length : Int)) b rs[a]).set b (l.length : Int) = xl0 (fix1 (l.length : Int)) (b + 1) rs[a] from xp1 _ hb _ (by unfold fix1; rw [if_pos hx])); have hS2 := hset (l.length : Int); have HSp2 := am (HSp.out.setRows 3 rfl (p := ⟨g2, b, none⟩) hok2 hS2 rfl); have HB2 := am (HB.out.setCell (p := ⟨g2, b, none⟩) hba2 (.int .i64 (l.length : Int))); simp only [List.set_cons_succ, List.set_cons_zero, List.set_set, Int.toNat_natCast] at HSp2; rw [HE.out] at HSp2; generalize rs[a][b] = x at hc2 d2; clear hrest hset hS2 hra hll erd hx HE HSp HB hba2 hok2; go_wp2; go_roundg k2
           case measure => omega
           case rel => exact ⟨b + 1, by go_num, ⟨by have := HKb.out; omega⟩, HB2, HSp2⟩
          ·have d2 : decide (rs[a][b] < 0) = false := decide_eq_false hx; have HE := am (show xl0 (fix1 (l.length : Int)) b rs[a] = xl0 (fix1 (l.length : Int)) (b + 1) rs[a] from jj2 _ hb (by unfold fix1; rw [if_neg hx])); have HSp2 := am HSp.out; rw [HE.out] at HSp2; generalize rs[a][b] = x at hc2 d2; clear hrest hset hra hll erd hx HE HSp hba2 hok2; go_wp2; go_roundg k2
           case measure => omega
           case rel => exact ⟨b + 1, by go_num, ⟨by have := HKb.out; omega⟩, HB, HSp2⟩
     | some li =>
      --CUT main
      rw [hk] at hm; simp only [] at hm; obtain ⟨rw_, hrw, hm1⟩ := oB hm; obtain ⟨a_, ha, hm2⟩ := oB hm1; obtain ⟨⟨nu1, l1, row1⟩, hrow, hm3⟩ := oB hm2; clear hm hm1 hm2; have hlt : bs.length < l.length := (List.getElem?_eq_some_iff.1 hk).1; have c1 : decide ((bs.length : Int) < (l.length : Int)) = true := decide_eq_true (by omega); have c2 : decide (bs.length < l.length) = true := decide_eq_true (by omega); obtain ⟨gL, cL, hv, hcL, hfL⟩ := HSp.out.int 2 rfl (bs.length : Int) (by omega) (by omega); subst hv; simp only [Int.toNat_natCast] at hcL hfL; (have eli : rd l (bs.length : Int) = li := by simp [rd, List.getD_eq_getElem?_getD, hk]); rw [eli] at hcL; have HRw := am hrw; have HAc := am ha; have HRow := am hrow; have HM3 := am hm3; have HLi := am hk; (have hbl : bs.length < 1048576 := by have := HLn.out.2.2.1; omega); have p1 : (bs.length < l.length) = True := eq_true hlt; clear hrw ha hrow hm3 hk eli hlt hfL; (have z1 : (size == 0) = false := by simpa using (show ¬ size = 0 by omega)); have z2 : (size = 0) = False := eq_false (by omega); go_wp2; have hb1 : Below wr.heap.size wr (wr.alloc (.cells #[] 2)) := (Below.refl _ _).alloc (Nat.le_refl _) _; have HS1 := am (HSp.out.new (t := 3) hb1 (kj0 (Kd.int .i64) 2 w.heap.size (.slice (some ⟨wr.heap.size, 0, none⟩) 0 0) []) (yc2 (Kd.int .i64) 2 w.heap.size wr _ HB.out.size (Nat.le_refl _)) rfl); have HB1 := am (zn0 HB.out HB.out.size hb1); simp only [List.cons_append, List.nil_append] at HS1; have HLb := am (of_eq_true p1); clear hb1 HSp HB hcL p1 z1 z2 c1 c2
      go_loopg [7, 11, 12] W (fun kq v7 v11 v12 w' => ∃ (own : Nat → Nat) (nu l row : List Int) (c : Nat), v12 = .int .i64 (c : Int) ∧ zd0 (c + kq = W) ∧ zd0 (Below w.heap.size w w') ∧ zd0 (Sep own w' [(4, blkP w.heap.size (.cells #[.int .i64 0, .int .i64 0, .slice none 0 0, .slice none 0 0] 29 (0, 0))), (1, rowP (Kd.int .i64) 2 w.heap.size (.slice (some ⟨gN, 0, none⟩) i c34) nu), (2, rowP (Kd.int .i64) 2 w.heap.size v7 l), (5, blkP ob (.cells #[.int .i64 tapes, .int .i64 0, va, vr] 29 (0, 0))), (6, rowP Kd.bool 4 w.heap.size va bs), (7, yr1 (Kd.slice 2 (Kd.int .i64)) 42 w.heap.size vr rs), (3, rowP (Kd.int .i64) 2 w.heap.size v11 row)]) ∧ zd0 (yk2 kd tapes size rw_ li kq c nu l row = some (nu1, l1, row1)) ∧ zd0 (row.length = c ∧ nu.length = i ∧ l.length ≤ 1048576 ∧ bs.length < l.length ∧ l[bs.length]? = some li))
      case atStart => exact ⟨_, nu, l, [], 0, rfl, ⟨by omega⟩, HB1, HS1, HRow, ⟨rfl, HLn.out.2.1, HLn.out.2.2.1, HLb.out, HLi.out⟩⟩
      case round =>
       clear HB1 HS1 HRow HLb; obtain ⟨own, nu, l, row, c, rfl, HK, HB, HSp, HRow, HLr⟩ := hrel; have gb := zf0 HG.out HB.out; have m0 : wr.cell? ⟨g, 0, none⟩ = some (.int .i64 tapes) := (zh0 gb 0).trans rfl
       cases gk with
       | zero =>
        (have hc : c = W := by have := HK.out; omega); subst hc; have hr := HRow.out; rw [yk2] at hr; (obtain ⟨rfl, rfl, rfl⟩ : nu = nu1 ∧ l = l1 ∧ row = row1 := by simpa using hr); have c1 : decide ((c : Int) < (c : Int)) = false := decide_eq_false (by omega); have c2 : decide (c < c) = false := decide_eq_false (by omega); clear hr HRow; obtain ⟨a0, a1, ea⟩ := xp0 HAc.out
        go_wp2_with (fail)
        (with_reducible refine (yv0.calls kw tapes (c : Int) _ HW.out).mono ?_); rintro e w5 ⟨rfl, hd5⟩; obtain ⟨m5, hw5⟩ := hd5.out; have hb5 := xd0 (zg0 (Below.refl wr.heap.size wr) m5); rw [← hw5] at hb5; obtain ⟨ad, e1, hx⟩ := Kd.ql0 (Kd.zv0 HA.out (zn0 HB.out HB.out.size hb5)) (wrap64 (Int.tdiv li size)) a0 a1; subst e1; rw [show rdOf false ac (wrap64 (Int.tdiv li size)) = a_ from ea.symm] at hx; obtain ⟨A2, cva, hva⟩ := Kd.zq0 (HSp.out.get (i := 4) rfl); subst hva; have HSp3 := am (HSp.out.below hb5); have HB3 := am (zn0 HB.out HB.out.size hb5); have hS : w5.drew.cell? ⟨ob, 2, none⟩ = some (.slice A2 bs.length cva) ∧ w5.drew.cell? ⟨g, 2, none⟩ = some (.slice (some ad) ac.length ca) ∧ w5.drew.cell? (ad.add (wrap64 (Int.tdiv li size)).toNat) = some (.bool a_) ∧ True := ⟨(zh0 (HSp3.out.get (i := 3) rfl).1 2).trans rfl, (zh0 (zf0 gb hb5) 2).trans rfl, hx, trivial⟩; have HEa := am ea.symm; have a0' := eq_true a0; have a1' := eq_true a1; clear hw5 hb5 hd5 m0 HSp HB gb hx ea a0 a1; go_wp2; refine qu0 (n := 13) (S := fun w' => w'.cell? ⟨ob, 2, none⟩ = some (.slice A2 bs.length cva) ∧ w'.cell? ⟨g, 2, none⟩ = some (.slice (some ad) ac.length ca) ∧ w'.cell? (ad.add (wrap64 (Int.tdiv li size)).toNat) = some (.bool a_) ∧ True) (ds := [12]) #[false, false, false, false, false, false, false, false, false, false, false, false, false] (by kernel_rfl) rfl rfl hS (fun hHeld => ?_)
        generalize w5.drew = w3 at HSp3 HB3 hS hHeld ⊢
        refine zz0 0 (some 138) (bl 13 1) rfl rfl (h := ?_); refine jd0 1 (some 139) (bl 13 3) hHeld rfl rfl (h := ?_); refine zz0 2 (some 140) (bl 13 7) rfl rfl (h := ?_); refine zz0 3 (some 141) (bl 13 15) rfl rfl (h := ?_); refine zz0 4 (some 142) (bl 13 31) rfl rfl (h := ?_); refine jd0 5 (some 143) (bl 13 63) hHeld rfl rfl (h := ?_); refine zz0 6 (some 144) (bl 13 127) rfl rfl (h := ?_); refine zz0 7 (some 145) (bl 13 255) rfl rfl (h := ?_); refine jd0 8 (some 146) (bl 13 511) hHeld rfl rfl (h := ?_); refine oneA 9 (some 147) (bl 13 1023) rfl rfl (fun K hK => ?_); refine zy1 (v := .slice (some ⟨w3.heap.size, 0, none⟩) 1 1) (w1 := w3.alloc (.cells #[.bool a_] 4)) (by rfl) rfl ?_ ?_
        ·go_simp
        have hba : Below w3.heap.size w3 (w3.alloc (.cells #[.bool a_] 4)) := (Below.refl _ _).alloc (Nat.le_refl _) _; refine hK.out _ _ ⟨zc0 hba hHeld.1, zc0 hba hHeld.2.1, zc0 hba hHeld.2.2.1, trivial⟩ (fun hHeld2 => ?_); clear hK K; refine qk0 (h := ?_); refine oneA 10 (some 148) (bl 13 2047) rfl rfl (fun K hK => ?_); refine Kd.qy0 Kd.bool (w0 := w) w.heap.size (by rfl) (.tmp 139) (.tmp 147) 22 4 (.bool false) 1 rfl Tryd.underlying22 yq2 rfl (by decide) (by decide) (.slice A2 bs.length cva) bs a_ [.bool a_] _ (fun _ => False) rfl rfl rfl (fun _ hk => hk.elim) (fun _ hk => yw0 hk) (HSp3.out.rowTag 4 rfl) HB3.out HB3.out.size (by have := HLr.out; omega) ?_; intro v5 w6 ho hb hg hat; obtain ⟨A5, c5, hv5⟩ := Kd.zq0 ho; subst hv5; have HSp4 := am (HSp3.out.appended 4 rfl ho hg rfl); have HB4 := am hb; simp only [List.set_cons_succ, List.set_cons_zero] at HSp4; obtain ⟨ad6, e6, hx6⟩ := Kd.ql0 (Kd.zv0 HA.out HB4.out) (wrap64 (Int.tdiv li size)) (of_eq_true a0') (of_eq_true a1'); (obtain rfl : ad = ad6 := by injection e6); rw [show rdOf false ac (wrap64 (Int.tdiv li size)) = a_ from HEa.out] at hx6; have hS6 : w6.cell? ⟨ob, 2, none⟩ = some (.slice A2 bs.length cva) ∧ w6.cell? ⟨g, 2, none⟩ = some (.slice (some ad) ac.length ca) ∧ w6.cell? (ad.add (wrap64 (Int.tdiv li size)).toNat) = some (.bool a_) ∧ True := ⟨(zh0 (HSp4.out.get (i := 3) rfl).1 2).trans rfl, (zh0 (zf0 HG.out HB4.out) 2).trans rfl, hx6, trivial⟩; have g2 := hS6.1; have f2 := zb0 (HSp4.out.get (i := 3) rfl).1 2; have HSp5 := am (HSp4.out.setBlk 3 rfl 2 (.slice A5 (bs ++ [a_]).length c5) rfl rfl); have HB5 := am (HB4.out.setCell (p := ⟨ob, 2, none⟩) (by have := hob.out; show w.heap.size ≤ ob; omega) (.slice A5 (bs ++ [a_]).length c5)); simp only [List.set_cons_succ, List.set_cons_zero] at HSp5; clear ho hb hg hat HSp3 HB3 HSp4 HB4; refine hK.out _ _ hS6 (fun _ => ?_); clear hK K hS6; refine qk0 (h := ?_); refine zz0 11 (some 149) (bl 13 4095) rfl rfl (h := ?_); refine jk1 (i := 12) (N := none) (bl 13 8191) rfl rfl (by kernel_rfl) (by decide) (fun K hK => ?_); refine qb1 (w1 := w6.setCell ⟨ob, 2, none⟩ (.slice A5 (bs ++ [a_]).length c5)) (by rfl) rfl ?_ ?_
        ·go_simp
        refine hK.out _ _ ?_; clear hK K; refine kv0 (by kernel_rfl) ?_; clear g2 f2 hHeld hHeld2 hba hS a0' a1'
        generalize w6.setCell _ _ = w7 at HSp5 HB5 ⊢
        obtain ⟨A8, c8, hv8⟩ := Kd.xc0 (HSp5.out.get (i := 5) rfl); subst hv8; obtain ⟨A9, c9, hv9⟩ := Kd.zq0 (HSp5.out.get (i := 6) rfl); subst hv9; have m3 : w7.cell? ⟨ob, 3, none⟩ = some (.slice A8 rs.length c8) := (zh0 (HSp5.out.get (i := 3) rfl).1 3).trans rfl; (have hrl : rs.length < 1048577 := by have h1_ := HLr.out; have h2_ := HLn.out; omega); have HSp6 := am (HSp5.out.drop 6); have hrow := HSp5.out.rowTag2 6 rfl 7; have HRw3 := am hrow; simp only [List.eraseIdx_cons_succ, List.eraseIdx_cons_zero] at HSp6; clear hrow HSp5
        go_wp2_with (first | ((with_reducible refine yf0 (b := .append) (xs := #[.tmp 151, .tmp 153]) rfl ?_); at_builtin; refine Kd.zt1 (Kd.slice 2 (Kd.int .i64)) (w0 := w) w.heap.size rfl (.tmp 151) (.tmp 153) 23 42 (.slice none 0 0) 24 rfl Tryd.underlying23 jx2 rfl (by decide) (by decide) (.slice A8 rs.length c8) rs row [.slice A9 row.length c9] _ _ rfl rfl ?aP ?aK ?aF (HSp6.out.rowsTag (u := 3) 5 rfl (by decide)) ?aB ?aS ?aL ?_; (case aP => exact ⟨_, rfl, HRw3.out⟩); (case aK => intro k hk; exact ⟨Or.inr hk, fun he => by have h_ := (Kd.S_R (HSp6.out.rowsTag (u := 3) 5 rfl (by decide))).1 k he.symm; exact h_.2 hk⟩); (case aF => exact (fun _ hk => Or.inl (yw0 hk))); (case aB => exact HB5.out); (case aS => exact HB5.out.size); (case aL => omega); intro v8 w8 ho hb hg hat; obtain ⟨A10, c10, hv10⟩ := Kd.xc0 ho; subst hv10; have HSp7 := am (HSp6.out.appendedRows (u := 3) 5 rfl ho hg rfl rfl); simp only [List.set_cons_succ, List.set_cons_zero] at HSp7; have HB7 := am hb; have m8 : w8.cell? ⟨ob, 3, none⟩ = some (.slice A8 rs.length c8) := (zh0 (HSp7.out.get (i := 3) rfl).1 3).trans rfl; have f8 := zb0 (HSp7.out.get (i := 3) rfl).1 3; clear ho hb hg hat HSp6 HRw3 HB5 m3))
        have HSp8 := am (HSp7.out.setBlk 3 rfl 3 (.slice A10 (rs ++ [row]).length c10) rfl rfl); have HB8 := am (HB7.out.setCell (p := ⟨ob, 3, none⟩) (by have := hob.out; show w.heap.size ≤ ob; omega) (.slice A10 (rs ++ [row]).length c10)); simp only [List.set_cons_succ, List.set_cons_zero] at HSp8; rw [show (rs ++ [row]).length = rs.length + 1 by simp] at HSp8 HB8; go_roundg k1
        case measure => omega
        case rel => exact ⟨_, nu, l, _, bs ++ [a_], _, rs ++ [row], by rw [show (bs ++ [a_]).length = bs.length + 1 by simp]; go_num, HB8, HSp8, HM3, ⟨by simp; exact HLn.out.1, HLr.out.2.1, HLr.out.2.2.1, by have := HLr.out.2.2.2.1; simp; omega, fun r_ hr_ => by rcases List.mem_append.1 hr_ with h_ | h_; exact HLn.out.2.2.2.2 r_ h_; simp at h_; rw [h_]; exact HLr.out.1⟩⟩
       | succ k2 =>
        --CUT row
        (have hc : c < W := by have := HK.out; omega); have c1 : decide ((c : Int) < (W : Int)) = true := decide_eq_true (by omega); have c2 : decide (c < W) = true := decide_eq_true (by omega); have hr := HRow.out; rw [yk2] at hr; obtain ⟨en, hen, hr1⟩ := oB hr; have HEn := am hen; obtain ⟨gL2, cL2, hv, hcL, hfL⟩ := HSp.out.int 2 rfl (bs.length : Int) (by omega) (by have := HLr.out.2.2.2.1; omega); subst hv; (have eli : rd l (bs.length : Int) = li := by simp [rd, List.getD_eq_getElem?_getD, HLr.out.2.2.2.2]); rw [eli] at hcL; simp only [Int.toNat_natCast] at hcL; have p1 : (bs.length < l.length) = True := eq_true HLr.out.2.2.2.1; have HR1 := am hr1; (have z1 : (size == 0) = false := by simpa using (show ¬ size = 0 by omega)); have z2 : (size = 0) = False := eq_false (by omega); clear hr hen hr1 eli hfL HRow gb
        go_wp2_with (fail)
        (with_reducible refine (yv0.calls kw tapes (W : Int) _ HW.out).mono ?_); rintro e w5 ⟨rfl, hd5⟩; obtain ⟨m5, hw5⟩ := hd5.out; have hb5 := zg0 (Below.refl wr.heap.size wr) m5; rw [← hw5] at hb5; have n0 := zc0 hb5 m0; have nL := zc0 hb5 hcL; have HSp5 := am (HSp.out.below hb5); have HB5 := am (zn0 HB.out HB.out.size hb5); clear hw5 hb5 hd5 m0 hcL HSp HB; go_wp2
        go_quiet ((go_at_call 136; exact Calls.quiet_of ((ym0.calls kd tapes (Int.tmod li size) (c : Int) en _ HEn.out).mono (fun _ _ h_ => ⟨h_.1, h_.2.out⟩))))
        have hb6 := zg0 (Below.refl w5.heap.size w5) nq; have HSp6 := am (HSp5.out.below hb6); have HB6 := am (zn0 HB5.out HB5.out.size hb6); clear hb6 HSp5 HB5 n0 nL
        generalize w5.drewN nq = w6 at HSp6 HB6 ⊢
        (have hc1000 : c < 1000 := by omega); by_cases he : en < 0
        ·have hr2 := HR1.out; rw [if_pos he] at hr2; have HR2 := am hr2; have d1 : decide (en < 0) = true := decide_eq_true he; clear hr2 HR1 he; obtain ⟨A11, c11, hv11⟩ := Kd.zq0 (HSp6.out.get (i := 6) rfl); subst hv11
         go_wp2_with (first | ((with_reducible refine yf0 (b := .append) (xs := #[.tmp 100, .tmp 101]) rfl ?_); at_builtin; refine Kd.xk0 (Kd.int .i64) (w0 := w) w.heap.size rfl (.tmp 100) (.tmp 101) 42 2 (.int .i64 0) 8 rfl Tryd.underlying42 yj1 rfl (by decide) (by decide) (Value.slice A11 row.length c11) row ((-1 : Int)) [.int .i64 ((-1 : Int))] _ (fun _ => False) rfl rfl ?aP (fun _ hk => hk.elim) ?aF (HSp6.out.rowTag 6 rfl) ?aB ?aS ?aL ?_; (case aP => exact rfl); (case aF => exact (fun _ hk => yw0 hk)); (case aB => exact HB6.out); (case aS => exact HB6.out.size); (case aL => have := HLr.out.1; omega); intro v_r w_r ho hb hg hat; have HSp_r := am (HSp6.out.appended 6 rfl ho hg rfl); have HB_r := am hb; simp only [List.set_cons_succ, List.set_cons_zero] at HSp_r; clear ho hb hg hat HSp6 HB6))
         go_roundg k2
         case measure => omega
         case rel => exact ⟨_, nu, l, row ++ [-1], c + 1, by go_num, ⟨by have := HK.out; omega⟩, HB_r, HSp_r, HR2, ⟨by simp [HLr.out.1], HLr.out.2⟩⟩
        ·have hr2 := HR1.out; rw [if_neg he] at hr2; obtain ⟨q, hq, hr3⟩ := oB hr2; obtain ⟨x, hx, hr4⟩ := oB hr3; have d1 : decide (en < 0) = false := decide_eq_false he; obtain ⟨a0, a1, ea⟩ := xp0 HRw.out; obtain ⟨b0, b1, eb⟩ := xp0 hq; obtain ⟨x0, x1, ex⟩ := xp0 hx; obtain ⟨ad, A2, c3, e2, hx2, hl2, hC3⟩ := ym1 (Kd.zv0 HN.out HB6.out) (wrap64 (Int.tdiv li size)) a0 a1; subst e2; rw [show rdR ns (wrap64 (Int.tdiv li size)) = rw_ from ea.symm] at hx2 hl2 hC3; obtain ⟨ad2, e3, hx3⟩ := Kd.yk0 hC3 (c : Int) b0 b1; subst e3; rw [show rd rw_ (c : Int) = q from eb.symm] at hx3; simp only [Int.toNat_natCast] at hx3; have m3 : w6.cell? ⟨g, 3, none⟩ = some (.slice (some ad) ns.length cn) := (zh0 (zf0 HG.out HB6.out) 3).trans rfl; obtain ⟨gN2, cN2, hv, hcN, hfN⟩ := HSp6.out.int 1 rfl (wrap64 (wrap64 (q * size) + en)) x0 x1; simp only [Value.slice.injEq, Option.some.injEq, Addr.mk.injEq, and_true, true_and] at hv; obtain ⟨hv1, hv2, hv3⟩ := hv; subst hv1; subst hv3; have hxr : rd nu (wrap64 (wrap64 (q * size) + en)) = x := ex.symm; have HXR := am hxr; rw [hxr] at hcN; have HR4 := am hr4; (have hb1' : c < rw_.length := by omega); have b1t := eq_true hb1'; have x1' : (wrap64 (wrap64 (q * size) + en) < (i : Int)) = True := eq_true (by have := HLr.out.2.1; omega); have x0' := eq_true x0; have a0' := eq_true a0; have a1' := eq_true a1; clear hr2 hr3 hr4 hq hx ea eb ex hC3 he hxr a0 a1 b0 b1 x0 x1 HR1 hb1' hl2 hv2; obtain ⟨A11, c11, hv11⟩ := Kd.zq0 (HSp6.out.get (i := 6) rfl); subst hv11; by_cases hxn : x < 0
         ·have hr5 := HR4.out; rw [if_pos hxn] at hr5; by_cases hll : l.length < 1048576
          ·rw [if_pos hll] at hr5; have HR5 := am hr5; have d2 : decide (x < 0) = true := decide_eq_true hxn; have HSp7 := am (HSp6.out.setInt 1 rfl (wrap64 (wrap64 (q * size) + en)) (l.length : Int) rfl); have HB7 := am (HB6.out.setCell (p := ⟨gN, (wrap64 (wrap64 (q * size) + en)).toNat, none⟩) (Kd.ju0 (HSp6.out.get (i := 1) rfl) gN rfl) (.int .i64 (l.length : Int))); simp only [List.set_cons_succ, List.set_cons_zero] at HSp7; clear hr5 HR4 hxn HSp6 HB6
           go_upto_region 25 with (fail)
           clear m3 hx2 hx3 hcN hfN
           generalize w6.setCell _ _ = w7 at HSp7 HB7 ⊢
           go_wp2_with (first | ((with_reducible refine yf0 (b := .append) (xs := #[.tmp 127, .tmp 129]) rfl ?_); at_builtin; refine Kd.xk0 (Kd.int .i64) (w0 := w) w.heap.size rfl (.tmp 127) (.tmp 129) 42 2 (.int .i64 0) 8 rfl Tryd.underlying42 yj1 rfl (by decide) (by decide) (Value.slice (some ⟨gL2, 0, none⟩) l.length cL2) l (wrap64 (wrap64 (q * size) + en)) [.int .i64 (wrap64 (wrap64 (q * size) + en))] _ (fun _ => False) rfl rfl ?aP (fun _ hk => hk.elim) ?aF (HSp7.out.rowTag 2 rfl) ?aB ?aS ?aL ?_; (case aP => exact rfl); (case aF => exact (fun _ hk => yw0 hk)); (case aB => exact HB7.out); (case aS => exact HB7.out.size); (case aL => omega); intro v_l w_l ho hb hg hat; have HSp_l := am (HSp7.out.appended 2 rfl ho hg rfl); have HB_l := am hb; simp only [List.set_cons_succ, List.set_cons_zero] at HSp_l; clear ho hb hg hat HSp7 HB7; obtain ⟨gN3, cN3, hv, hcN8, hfN8⟩ := HSp_l.out.int 1 rfl (wrap64 (wrap64 (q * size) + en)) (of_eq_true x0') (by have := of_eq_true x1'; have := HLr.out.2.1; simp only [List.length_set]; omega); simp only [Value.slice.injEq, Option.some.injEq, Addr.mk.injEq, and_true, true_and] at hv; obtain ⟨hv1, hv2, hv3⟩ := hv; subst hv1; subst hv3; rw [qw0 (of_eq_true x0') (by have := of_eq_true x1'; have := HLr.out.2.1; omega)] at hcN8; clear hv2) | ((with_reducible refine yf0 (b := .append) (xs := #[.tmp 131, .tmp 136]) rfl ?_); at_builtin; refine Kd.xk0 (Kd.int .i64) (w0 := w) w.heap.size rfl (.tmp 131) (.tmp 136) 42 2 (.int .i64 0) 8 rfl Tryd.underlying42 yj1 rfl (by decide) (by decide) (Value.slice A11 row.length c11) row ((l.length : Int)) [.int .i64 ((l.length : Int))] _ (fun _ => False) rfl rfl ?aP (fun _ hk => hk.elim) ?aF (HSp_l.out.rowTag 6 rfl) ?aB ?aS ?aL ?_; (case aP => exact rfl); (case aF => exact (fun _ hk => yw0 hk)); (case aB => exact HB_l.out); (case aS => exact HB_l.out.size); (case aL => have := HLr.out.1; omega); intro v_r w_r ho hb hg hat; have HSp_r := am (HSp_l.out.appended 6 rfl ho hg rfl); have HB_r := am hb; simp only [List.set_cons_succ, List.set_cons_zero] at HSp_r; clear ho hb hg hat HSp_l HB_l))
           go_roundg k2
           case measure => omega
           case rel => exact ⟨_, nu.set (wrap64 (wrap64 (q * size) + en)).toNat (l.length : Int), l ++ [wrap64 (wrap64 (q * size) + en)], row ++ [(l.length : Int)], c + 1, by go_num, ⟨by have := HK.out; omega⟩, HB_r, HSp_r, HR5, ⟨by simp [HLr.out.1], by simp [HLr.out.2.1], by simp; omega, by have := HLr.out.2.2.2.1; simp; omega, kd0 HLr.out.2.2.2.2⟩⟩
          ·rw [if_neg hll] at hr5; cases hr5
         ·have hr5 := HR4.out; rw [if_neg hxn] at hr5; have HR5 := am hr5; have d2 : decide (x < 0) = false := decide_eq_false hxn; clear hr5 HR4 hxn
          go_wp2_with (first | ((with_reducible refine yf0 (b := .append) (xs := #[.tmp 131, .tmp 136]) rfl ?_); at_builtin; refine Kd.xk0 (Kd.int .i64) (w0 := w) w.heap.size rfl (.tmp 131) (.tmp 136) 42 2 (.int .i64 0) 8 rfl Tryd.underlying42 yj1 rfl (by decide) (by decide) (Value.slice A11 row.length c11) row (x) [.int .i64 (x)] _ (fun _ => False) rfl rfl ?aP (fun _ hk => hk.elim) ?aF (HSp6.out.rowTag 6 rfl) ?aB ?aS ?aL ?_; (case aP => exact rfl); (case aF => exact (fun _ hk => yw0 hk)); (case aB => exact HB6.out); (case aS => exact HB6.out.size); (case aL => have := HLr.out.1; omega); intro v_r w_r ho hb hg hat; have HSp_r := am (HSp6.out.appended 6 rfl ho hg rfl); have HB_r := am hb; simp only [List.set_cons_succ, List.set_cons_zero] at HSp_r; clear ho hb hg hat HSp6 HB6))
          go_roundg k2
          case measure => omega
          case rel => exact ⟨_, nu, l, row ++ [x], c + 1, by go_num, ⟨by have := HK.out; omega⟩, HB_r, HSp_r, HR5, ⟨by simp [HLr.out.1], HLr.out.2⟩⟩
        --END row
      --END main
  | succ k1 =>
   (have hi : i < N := by have := HK.out; omega); have c1 : decide ((i : Int) < (N : Int)) = true := decide_eq_true (by omega); have c2 : decide (i < N) = true := decide_eq_true (by omega); (have hnl : nu.length = N := by rw [HE.out]; simp; omega); obtain ⟨gN, cN, hv, hcN, hfN⟩ := HSp.out.int 1 rfl (i : Int) (by omega) (by omega); simp only [Value.slice.injEq] at hv; obtain ⟨hv1, -, hv2⟩ := hv; subst hv1; subst hv2; simp only [Int.toNat_natCast] at hcN hfN; (have hi2 : i < 1048576 := by omega); clear hnl; go_wp2; go_roundg k1
   case measure => omega
   case rel =>
    have hbase := Kd.ju0 (HSp.out.get (i := 1) rfl) gN rfl; exact ⟨own, i + 1, nu.set i (-1), by go_num, ⟨by have := HK.out; omega⟩, ⟨yq3 hi nu HE.out⟩, ⟨HB.out.setCell hbase _⟩, ⟨by have h_ := HSp.out.setInt 1 rfl (i : Int) (-1) rfl; simpa using h_⟩⟩
def qv0.f (k : Nat) (s0_0 : Int) (s0_1 : Int) (s0_2 : List Bool) (s0_3 : List (List Int)) : Option (Int × Int × List Bool × (List (List Int)) × Int × Int) :=
 (yv0.f k s0_0).bind fun W => if 0 ≤ W ∧ W ≤ 1000 ∧ 0 ≤ s0_0 ∧ s0_0 ≤ 3 ∧ s0_2.length ≤ 100000 then
  (jf2 k s0_0 (2 ^ s0_0.toNat) W.toNat (s0_2.length * 2 ^ s0_0.toNat) k s0_1 s0_2 s0_3).bind fun p => some (s0_0, 0, p.1, p.2, s0_0, s0_1) else none
/-- Nothing that was there is changed. -/
theorem qv0.same (k : Nat) (g : Nat) (s0_0 : Int) (s0_1 : Int) (s0_2 : List Bool) (s0_3 : List (List Int)) (A2 : Option Addr) (c2 : Nat) (A3 : Option Addr) (c3 : Nat) (r1 : Int) (r2 : Int) (r3 : List Bool) (r4 : List (List Int)) (r5 : Int) (r6 : Int) (w : World) (hb : w.heap[g]? = some (.cells #[.int .i64 s0_0, .int .i64 s0_1, .slice A2 s0_2.length c2, .slice A3 s0_3.length c3] 29 (0, 0))) (hC2 : Kd.C Kd.bool w A2 s0_2.length s0_2) (hC3 : Kd.C (Kd.slice 2 (Kd.int .i64)) w A3 s0_3.length s0_3) (h : qv0.f k s0_0 s0_1 s0_2 s0_3 = some (r1, r2, r3, r4, r5, r6)) :
  Calls Tryd.prog 110 #[.pointer (some ⟨g, 0, none⟩)] w (jb1 w s0_0 r3 r4) ∧ r1 = s0_0 ∧ r2 = 0 ∧ r5 = s0_0 ∧ r6 = s0_1 := by
 unfold qv0.f at h; obtain ⟨W, hW, h⟩ := oB h
 have hc : 0 ≤ W ∧ W ≤ 1000 ∧ 0 ≤ s0_0 ∧ s0_0 ≤ 3 ∧ s0_2.length ≤ 100000 := by
  by_cases e : 0 ≤ W ∧ W ≤ 1000 ∧ 0 ≤ s0_0 ∧ s0_0 ≤ 3 ∧ s0_2.length ≤ 100000
  ·exact e
  ·rw [if_neg e] at h; cases h
 rw [if_pos hc] at h; obtain ⟨w1, w2, t0, t3, hl⟩ := hc; obtain ⟨⟨bs, rs⟩, hr, h⟩ := oB h; simp only [Option.some.injEq, Prod.mk.injEq] at h; obtain ⟨rfl, rfl, rfl, rfl, rfl, rfl⟩ := h; obtain ⟨n, rfl⟩ : ∃ n : Nat, W = (n : Int) := ⟨W.toNat, by omega⟩; (have h8 : ∀ t : Nat, t ≤ 3 → (1 : Int) ≤ 2 ^ t ∧ (2 : Int) ^ t ≤ 8 ∧ IntKind.i64.wrap ((2 : Int) ^ t) = 2 ^ t ∧ ((2 ^ t : Nat) : Int) = (2 : Int) ^ t := by decide +kernel); obtain ⟨e1, e2, e3, e4⟩ := h8 s0_0.toNat (by omega); (have e5 : (2 ^ s0_0.toNat : Nat) ≤ 8 := by omega); have hm : s0_2.length * 2 ^ s0_0.toNat ≤ 100000 * 8 := Nat.mul_le_mul hl e5; refine ⟨za3 (W := n) (size := 2 ^ s0_0.toNat) (N := s0_2.length * 2 ^ s0_0.toNat) w g A2 c2 A3 c3 hb hC2 hC3 hW (by omega) e3 t0 t3 e1 e2 ?_ (by omega) (by omega) (by simpa using hr), rfl, rfl, rfl, rfl⟩; rw [← e4, ← Int.natCast_mul]; unfold wrap64; omega
end Go.Proofs.YtocfcpicleomcaaDoor.X
