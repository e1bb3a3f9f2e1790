-- Written by a program of this claim's author, out of the translation.
import Derived.Test.YtbbkhkipnkejmaaXx0
import Derived.Test.YtbbkhkipnkejmaaXx35
namespace Go.Proofs.Ytbbkhkipnkejmaa.X
open Go.RowKit Go.Proofs.YtbbkhkipnkejmaaW.PrintWords Go.Proofs.YtbbkhkipnkejmaaW.PrintLast Go.Proofs.YtbbkhkipnkejmaaW.PrintMore
attribute [local go_sem] max2_int min2_int max_two min_two max_three min_three max_four min_four   -- for this text's walks alone
set_option linter.unusedVariables false
set_option linter.unusedSimpArgs false

/-! ### spec_ValidPresentation: function 39 -/
def spec_l03Ok.l0 : Nat → List (S44) → Int → Option Bool
  | 0, _, _ => none
  | k + 1, x0, x5 => if x5 < (x0.length : Int) then (if 0 ≤ x5 then ((spec_l01Ok.f k (rd_T44 x0 x5).f0 (rd_T44 x0 x5).f1 (rd_T44 x0 x5).f2 (rd_T44 x0 x5).f3).bind fun t283 => (if t283.1 = true then (spec_l03Ok.l0 k x0 (wrap64 (x5 + 1))) else (some false))) else (none)) else (some true)
def spec_ValidPresentation.f (k : Nat) (a0 : Int) (a1 : Int) (l2 : List Bool) (l3 : List (List Int)) (l4 : List (S44)) : Option (Bool) := (spec_l01Ok.f k a0 a1 l2 l3).bind fun b => if b.1 = true then (if a0 = 1 then (if (l4.length : Int) > 4 then (some false) else (spec_l03Ok.l0 k l4 0)) else (some false)) else (some false)
theorem spec_l03Ok.mono_l : ∀ k, (∀ y0 y1, LeO (spec_l03Ok.l0 k y0 y1) (spec_l03Ok.l0 (k + 1) y0 y1))
  | 0 => fun _ _ r h => by simp [spec_l03Ok.l0] at h
  | k + 1 => by
    have ih0 := spec_l03Ok.mono_l k
    · intro y0 y1
      unfold spec_l03Ok.l0
      repeat' first
      | (with_reducible exact ih0 _ _)
      | (with_reducible exact spec_l01Ok.mono _ _ _ _ _)
      | (with_reducible exact LeO.refl _)
      | (with_reducible exact LeO.none _)
      | (with_reducible refine LeO.ite ?_ ?_)
      | (with_reducible refine LeO.bind ?_ (fun _ => ?_))
theorem spec_ValidPresentation.mono : ∀ a0 a1 a2 a3 a4 k, LeO (spec_ValidPresentation.f k a0 a1 a2 a3 a4) (spec_ValidPresentation.f (k + 1) a0 a1 a2 a3 a4) := by
  intro a0 a1 a2 a3 a4 k
  have ih0 := spec_l03Ok.mono_l k
  unfold spec_ValidPresentation.f
  repeat' first
      | (with_reducible exact ih0 _ _)
      | (with_reducible exact spec_l01Ok.mono _ _ _ _ _)
      | (with_reducible exact LeO.refl _)
      | (with_reducible refine LeO.ite ?_ ?_)
      | (with_reducible refine LeO.bind ?_ (fun _ => ?_))
set_option maxHeartbeats 8000000 in
set_option maxRecDepth 100000 in
theorem spec_l03Ok.calls (k : Nat) (g : Nat) (a0 : Int) (a1 : Int) (A2 : Option Addr) (c2 : Nat) (l2 : List Bool) (A3 : Option Addr) (c3 : Nat) (l3 : List (List Int)) (A4 : Option Addr) (c4 : Nat) (l4 : List (S44)) (r : Bool) (w : World) (hG : w.heap[g]? = some (.cells #[.int .i64 a0, .int .i64 a1, .slice A2 l2.length c2, .slice A3 l3.length c3, .slice A4 l4.length c4] 59 (0, 0))) (hr2 : Kd.C Kd.bool w A2 l2.length l2) (hr3 : Kd.C (Kd.slice 2 (Kd.int .i64)) w A3 l3.length l3) (hr4 : Kd.C k44 w A4 l4.length l4) (h : spec_ValidPresentation.f k a0 a1 l2 l3 l4 = some r) :
    Calls Try.prog 75 #[.pointer (some ⟨g, 0, none⟩)] w fun e w' => e = .returned (.bool r) ∧ Below w.heap.size w w' := by
  have hu44 := Try.underlying44
  have HG := Aside0.mk hG
  have HR2 := Aside0.mk hr2
  have HR3 := Aside0.mk hr3
  have HR4 := Aside0.mk hr4
  clear hG hr2 hr3 hr4
  have HB := Aside0.mk (Below.refl w.heap.size w)
  obtain ⟨⟨b, b1, b2⟩, h3, H⟩ := Option.bind_eq_some_iff.mp (show (spec_l01Ok.f k a0 a1 l2 l3).bind (fun b => if b.1 = true then (if a0 = 1 then (if (l4.length : Int) > 4 then (some false) else (spec_l03Ok.l0 k l4 0)) else (some false)) else (some false)) = some r from h)
  replace H : (if b = true then (if a0 = 1 then (if (l4.length : Int) > 4 then (some false) else (spec_l03Ok.l0 k l4 0)) else (some false)) else (some false)) = some r := H
  have H3 := Aside0.mk h3
  clear h h3
  have q0 : w.cell? ⟨g, 0, none⟩ = some (.int .i64 a0) := (blk_cell HG.out 0).trans rfl
  have q4 : w.cell? ⟨g, 4, none⟩ = some (.slice A4 l4.length c4) := (blk_cell HG.out 4).trans rfl
  have HP := Aside0.mk (show IsP44 w w ⟨g, 0, none⟩ a0 a1 l2 l3 from ⟨A2, c2, A3, c3, (blk_cell HG.out 0).trans rfl, (blk_cell HG.out 1).trans rfl, (blk_cell HG.out 2).trans rfl, (blk_cell HG.out 3).trans rfl, HR2.out, HR3.out⟩)
  cases b with
  | true =>
    rw [if_pos rfl] at H
    by_cases c1 : a0 = 1
    · rw [if_pos c1] at H
      have c1b0 : (a0 == 1) = true := beq_iff_eq.mpr c1
      have c1b1 : (a0 != 1) = false := bne_eq_false_iff_eq.mpr c1
      clear c1
      by_cases c5 : (l4.length : Int) > 4
      · rw [if_pos c5] at H
        obtain rfl := Option.some.inj H
        have c5b0 : decide ((l4.length : Int) > 4) = true := decide_eq_true c5
        have c5b1 : decide ((4 : Int) < (l4.length : Int)) = true := decide_eq_true (by omega)
        have c5b2 : decide (4 < l4.length) = true := decide_eq_true (by omega)
        clear c5 H
        go_enter Try.func75, Try.ntmps75
        go_wp2_with (first | (go_at_call 55; (with_reducible refine (spec_l01Ok.atcalls k ⟨g, 0, none⟩ a0 a1 l2 l3 true b1 b2 w _ ?s1 ?s2 H3.out).mono ?_); (case s1 => exact HP.out); (case s2 => exact Below.refl _ _); rintro e w5 ⟨rfl, hi, hb, hk⟩; have n1_ : Aside0 (Below w.heap.size w w5) := Aside0.mk hb; have z0 : w5.cell? ⟨g, 0, none⟩ = some (.int .i64 a0) := pw_cell_below hb q0; have z4 : w5.cell? ⟨g, 4, none⟩ = some (.slice A4 l4.length c4) := pw_cell_below hb q4; clear HB hb hi hk q0 q4; have HB := n1_; clear n1_))
        go_ret
        exact ⟨by first | rfl | (simp; done) | (simp [*]; done), by repeat (first | exact HB.out | apply below_alloc | apply pw_below_drewN | apply below_drew1)⟩
      · rw [if_neg c5] at H
        have H' := Aside0.mk H
        have c5b0 : decide ((l4.length : Int) > 4) = false := decide_eq_false c5
        have c5b1 : decide ((4 : Int) < (l4.length : Int)) = false := decide_eq_false (by omega)
        have c5b2 : decide (4 < l4.length) = false := decide_eq_false (by omega)
        clear c5 H
        go_enter Try.func75, Try.ntmps75
        go_wp2_with (first | (go_at_call 55; (with_reducible refine (spec_l01Ok.atcalls k ⟨g, 0, none⟩ a0 a1 l2 l3 true b1 b2 w _ ?s1 ?s2 H3.out).mono ?_); (case s1 => exact HP.out); (case s2 => exact Below.refl _ _); rintro e w5 ⟨rfl, hi, hb, hk⟩; have n1_ : Aside0 (Below w.heap.size w w5) := Aside0.mk hb; have z0 : w5.cell? ⟨g, 0, none⟩ = some (.int .i64 a0) := pw_cell_below hb q0; have z4 : w5.cell? ⟨g, 4, none⟩ = some (.slice A4 l4.length c4) := pw_cell_below hb q4; clear HB hb hi hk q0 q4; have HB := n1_; clear n1_))
        go_loopg [3] k (fun kq v3 w' => ∃ (x5_1 : Int), v3 = .int .i64 x5_1 ∧ Aside0 (spec_l03Ok.l0 kq l4 x5_1 = some r) ∧ Aside0 (Below w.heap.size w w'))
        case atStart => exact ⟨(0), (by first | rfl | (simp; done) | (simp [*]; done)), H', ⟨by repeat (first | exact HB.out | apply below_alloc | apply pw_below_drewN | apply below_drew1)⟩⟩
        case round =>
          clear H' HB HP
          try clear c5b0
          try clear c5b1
          try clear c5b2
          obtain ⟨x5_1, rfl, HA, HB⟩ := hrel
          have z4 : wr.cell? ⟨g, 4, none⟩ = some (.slice A4 l4.length c4) := pw_cell_below HB.out ((blk_cell HG.out 4).trans rfl)
          cases gk with
          | zero => exact absurd HA.out (by simp [spec_l03Ok.l0])
          | succ k1 =>
            have H := HA.out
            clear HA
            simp only [spec_l03Ok.l0] at H
            by_cases c4 : x5_1 < (l4.length : Int)
            · rw [if_pos c4] at H
              have c4b0 : decide (x5_1 < (l4.length : Int)) = true := decide_eq_true c4
              by_cases c5 : 0 ≤ x5_1
              · rw [if_pos c5] at H
                have c5b0 : decide (0 ≤ x5_1) = true := decide_eq_true c5
                obtain ⟨⟨t1, t2, t3⟩, A70, H⟩ := Option.bind_eq_some_iff.mp H
                replace H : (if t1 = true then (spec_l03Ok.l0 k1 l4 (wrap64 (x5_1 + 1))) else (some false)) = some r := H
                have A7 := Aside0.mk A70
                clear A70
                obtain ⟨ad1, P2, d2, P3, d3, e281, hx0, hx1, hx2, hx3, hlp2, hkp2, hlp3, hkp3⟩ := at_T44 HR4.out x5_1 c5 c4
                cases e281
                have HP := Aside0.mk (show IsP44 wr wr (ad1.add (x5_1.toNat * 4)) (rd_T44 l4 x5_1).f0 (rd_T44 l4 x5_1).f1 (rd_T44 l4 x5_1).f2 (rd_T44 l4 x5_1).f3 from ⟨P2, d2, P3, d3, pw_cell_below HB.out hx0, pw_cell_below HB.out hx1, pw_cell_below HB.out hx2, pw_cell_below HB.out hx3, Kd.C_below hkp2 HB.out, Kd.C_below hkp3 HB.out⟩)
                clear hx0 hx1 hx2 hx3 hlp2 hkp2 hlp3 hkp3
                replace c4 := eq_true c4
                replace c5 := eq_true c5
                cases t1 with
                | true =>
                  rw [if_pos rfl] at H
                  have H' := Aside0.mk H
                  clear H
                  go_wp2_with (first | (go_at_call 55; (with_reducible refine (spec_l01Ok.atcalls k1 (ad1.add (x5_1.toNat * 4)) _ _ _ _ true t2 t3 wr _ ?s1 ?s2 A7.out).mono ?_); (case s1 => exact HP.out); (case s2 => exact Below.refl _ _); rintro e w5 ⟨rfl, hi, hb, hk⟩; have n1_ := Aside0.mk (below_step HB.out hb); clear HB hb hi hk; have HB := n1_; clear n1_))
                  go_roundg k1
                  case measure => omega
                  case rel => exact ⟨(wrap64 (x5_1 + 1)), (by first | rfl | (simp; done) | (simp [*]; done)), H', ⟨by repeat (first | exact HB.out | apply below_alloc | apply pw_below_drewN | apply below_drew1)⟩⟩
                | false =>
                  rw [if_neg (show ¬ (false = true) by decide)] at H
                  obtain rfl := Option.some.inj H
                  clear H
                  go_wp2_with (first | (go_at_call 55; (with_reducible refine (spec_l01Ok.atcalls k1 (ad1.add (x5_1.toNat * 4)) _ _ _ _ false t2 t3 wr _ ?s1 ?s2 A7.out).mono ?_); (case s1 => exact HP.out); (case s2 => exact Below.refl _ _); rintro e w5 ⟨rfl, hi, hb, hk⟩; have n1_ := Aside0.mk (below_step HB.out hb); clear HB hb hi hk; have HB := n1_; clear n1_))
                  go_ret
                  exact ⟨by first | rfl | (simp; done) | (simp [*]; done), by repeat (first | exact HB.out | apply below_alloc | apply pw_below_drewN | apply below_drew1)⟩
              · rw [if_neg c5] at H
                exact absurd H (by simp)
            · rw [if_neg c4] at H
              have c4b0 : decide (x5_1 < (l4.length : Int)) = false := decide_eq_false c4
              clear c4
              obtain rfl := Option.some.inj H
              go_wp2
              go_ret
              exact ⟨by first | rfl | (simp; done) | (simp [*]; done), by repeat (first | exact HB.out | apply below_alloc | apply pw_below_drewN | apply below_drew1)⟩
    · rw [if_neg c1] at H
      obtain rfl := Option.some.inj H
      have c1b0 : (a0 == 1) = false := beq_eq_false_iff_ne.mpr c1
      have c1b1 : (a0 != 1) = true := bne_iff_ne.mpr c1
      clear c1 H
      go_enter Try.func75, Try.ntmps75
      go_wp2_with (first | (go_at_call 55; (with_reducible refine (spec_l01Ok.atcalls k ⟨g, 0, none⟩ a0 a1 l2 l3 true b1 b2 w _ ?s1 ?s2 H3.out).mono ?_); (case s1 => exact HP.out); (case s2 => exact Below.refl _ _); rintro e w5 ⟨rfl, hi, hb, hk⟩; have n1_ : Aside0 (Below w.heap.size w w5) := Aside0.mk hb; have z0 : w5.cell? ⟨g, 0, none⟩ = some (.int .i64 a0) := pw_cell_below hb q0; have z4 : w5.cell? ⟨g, 4, none⟩ = some (.slice A4 l4.length c4) := pw_cell_below hb q4; clear HB hb hi hk q0 q4; have HB := n1_; clear n1_))
      go_ret
      exact ⟨by first | rfl | (simp; done) | (simp [*]; done), by repeat (first | exact HB.out | apply below_alloc | apply pw_below_drewN | apply below_drew1)⟩
  | false =>
    rw [if_neg (show ¬ (false = true) by decide)] at H
    obtain rfl := Option.some.inj H
    clear H
    go_enter Try.func75, Try.ntmps75
    go_wp2_with (first | (go_at_call 55; (with_reducible refine (spec_l01Ok.atcalls k ⟨g, 0, none⟩ a0 a1 l2 l3 false b1 b2 w _ ?s1 ?s2 H3.out).mono ?_); (case s1 => exact HP.out); (case s2 => exact Below.refl _ _); rintro e w5 ⟨rfl, hi, hb, hk⟩; have n1_ : Aside0 (Below w.heap.size w w5) := Aside0.mk hb; have z0 : w5.cell? ⟨g, 0, none⟩ = some (.int .i64 a0) := pw_cell_below hb q0; have z4 : w5.cell? ⟨g, 4, none⟩ = some (.slice A4 l4.length c4) := pw_cell_below hb q4; clear HB hb hi hk q0 q4; have HB := n1_; clear n1_))
    go_ret
    exact ⟨by first | rfl | (simp; done) | (simp [*]; done), by repeat (first | exact HB.out | apply below_alloc | apply pw_below_drewN | apply below_drew1)⟩
set_option maxHeartbeats 8000000 in
set_option maxRecDepth 100000 in
theorem spec_ValidPresentation.calls (k : Nat) (a0 : Int) (a1 : Int) (A2 : Option Addr) (c2 : Nat) (l2 : List Bool) (A3 : Option Addr) (c3 : Nat) (l3 : List (List Int)) (A4 : Option Addr) (c4 : Nat) (l4 : List (S44)) (r : Bool) (w : World) (hr2 : Kd.C Kd.bool w A2 l2.length l2) (hc2 : l2.length ≤ c2) (hr3 : Kd.C (Kd.slice 2 (Kd.int .i64)) w A3 l3.length l3) (hc3 : l3.length ≤ c3) (hr4 : Kd.C k44 w A4 l4.length l4) (hc4 : l4.length ≤ c4) (h : spec_ValidPresentation.f k a0 a1 l2 l3 l4 = some r) :
    Calls Try.prog 39 #[.agg #[.int .i64 a0, .int .i64 a1, .slice A2 l2.length c2, .slice A3 l3.length c3, .slice A4 l4.length c4]] w fun e w' => e = .returned (.bool r) ∧ Below w.heap.size w w' := by
  have H := Aside0.mk h
  have HR2 := Aside0.mk hr2
  have HR3 := Aside0.mk hr3
  have HR4 := Aside0.mk hr4
  clear h hr2 hr3 hr4 hc2 hc3 hc4
  go_enter Try.func39, Try.ntmps39
  go_wp2_with (go_at_call 75; refine (spec_l03Ok.calls k w.heap.size a0 a1 A2 c2 l2 A3 c3 l3 A4 c4 l4 r _ (by (with_reducible repeat (first | refine blk_drewN ?_ _ | refine blk_drew ?_)); exact blk_new w _) (Kd.C_below HR2.out (by repeat (first | exact Below.refl _ _ | apply pw_below_drewN | apply below_alloc))) (Kd.C_below HR3.out (by repeat (first | exact Below.refl _ _ | apply pw_below_drewN | apply below_alloc))) (Kd.C_below HR4.out (by repeat (first | exact Below.refl _ _ | apply pw_below_drewN | apply below_alloc))) H.out).mono ?_; rintro e w' ⟨rfl, hb⟩; have HZ : Aside0 (Below w.heap.size w w') := Aside0.mk (below_step (by repeat (first | (with_reducible exact Below.refl _ _) | apply pw_below_drewN | apply below_alloc)) hb); clear hb)
  go_ret
  exact ⟨rfl, by repeat (first | exact HZ.out | apply pw_below_drewN | apply below_drew1)⟩

end Go.Proofs.Ytbbkhkipnkejmaa.X
