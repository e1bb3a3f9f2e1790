-- Written by a program of this claim's author, out of the translation.
import Derived.Test.YtbbkhkipnkejmaaXx0
import Derived.Test.YtbbkhkipnkejmaaXx51
namespace Go.Proofs.Ytbbkhkipnkejmaa.X
open Go.RowKit Go.Proofs.YtbbkhkipnkejmaaW.PrintWords Go.Proofs.YtbbkhkipnkejmaaW.PrintLast Go.Proofs.YtbbkhkipnkejmaaW.PrintMore
attribute [local go_sem] max2_int min2_int max_two min_two max_three min_three max_four min_four   -- for this text's walks alone
set_option linter.unusedVariables false
set_option linter.unusedSimpArgs false

/-! ### impl_SamePresentation: function 37 -/
/-! #### slices.EqualFunc of relations, with SameRelation -/
def eqfRels.l0 : Nat → List (S44) → List (S44) → Int → Option Bool
  | 0, _, _, _ => none
  | k + 1, x0, x1, x5 => if x5 < (x0.length : Int) then (if 0 ≤ x5 then (if x5 < (x1.length : Int) then ((impl_SameRelation.f k (rd_T44 x0 x5).f0 (rd_T44 x0 x5).f1 (rd_T44 x0 x5).f2 (rd_T44 x0 x5).f3 (rd_T44 x1 x5).f0 (rd_T44 x1 x5).f1 (rd_T44 x1 x5).f2 (rd_T44 x1 x5).f3).bind fun t283 => (if t283 = true then (eqfRels.l0 k x0 x1 (wrap64 (x5 + 1))) else (some false))) else (none)) else (none)) else (some true)
def eqfRels.f (k : Nat) (l0 : List (S44)) (l1 : List (S44)) : Option (Bool) := if (l0.length : Int) = (l1.length : Int) then (eqfRels.l0 k l0 l1 0) else (some false)
theorem eqfRels.mono_l : ∀ k, (∀ y0 y1 y2, LeO (eqfRels.l0 k y0 y1 y2) (eqfRels.l0 (k + 1) y0 y1 y2))
  | 0 => fun _ _ _ r h => by simp [eqfRels.l0] at h
  | k + 1 => by
    have ih0 := eqfRels.mono_l k
    · intro y0 y1 y2
      unfold eqfRels.l0
      repeat' first
      | (with_reducible exact ih0 _ _ _)
      | (with_reducible exact impl_SameRelation.mono _ _ _ _ _ _ _ _ _)
      | (with_reducible exact LeO.refl _)
      | (with_reducible exact LeO.none _)
      | (with_reducible refine LeO.ite ?_ ?_)
      | (with_reducible refine LeO.bind ?_ (fun _ => ?_))
theorem eqfRels.mono : ∀ a0 a1 k, LeO (eqfRels.f k a0 a1) (eqfRels.f (k + 1) a0 a1) := by
  intro a0 a1 k
  have ih0 := eqfRels.mono_l k
  unfold eqfRels.f
  repeat' first
      | (with_reducible exact ih0 _ _ _)
      | (with_reducible exact LeO.refl _)
      | (with_reducible exact LeO.none _)
      | (with_reducible refine LeO.ite ?_ ?_)
set_option maxHeartbeats 8000000 in
set_option maxRecDepth 100000 in
theorem eqfRels.calls (k : Nat) (A0 : Option Addr) (c0 : Nat) (l0 : List (S44)) (A1 : Option Addr) (c1 : Nat) (l1 : List (S44)) (r : Bool) (w : World) (hr0 : Kd.C k44 w A0 l0.length l0) (hr1 : Kd.C k44 w A1 l1.length l1) (h : eqfRels.f k l0 l1 = some r) :
    Calls Try.prog 73 #[.slice A0 l0.length c0, .slice A1 l1.length c1, .func (.func 31) #[] #[]] w fun e w' => e = .returned (.bool r) ∧ Below w.heap.size w w' := by
  have hu44 := Try.underlying44
  have HR0 := Aside0.mk hr0
  have HR1 := Aside0.mk hr1
  clear hr0 hr1
  have HB := Aside0.mk (Below.refl w.heap.size w)
  have H : (if (l0.length : Int) = (l1.length : Int) then (eqfRels.l0 k l0 l1 0) else (some false)) = some r := h
  clear h
  by_cases c3 : (l0.length : Int) = (l1.length : Int)
  · rw [if_pos c3] at H
    have c3b0 : ((l0.length : Int) == (l1.length : Int)) = true := beq_iff_eq.mpr c3
    have c3b1 : ((l0.length : Int) != (l1.length : Int)) = false := bne_eq_false_iff_eq.mpr c3
    have c3b2 : (l0.length == l1.length) = true := by first | simpa using c3 | (simp at c3 ⊢; omega)
    clear c3
    have H' := Aside0.mk H
    clear H
    go_enter Try.func73, Try.ntmps73
    go_wp2
    go_loopg [17] k (fun kq v17 w' => ∃ (x5_1 : Int), v17 = .int .i64 x5_1 ∧ Aside0 (eqfRels.l0 kq l0 l1 x5_1 = some r) ∧ Aside0 (Below w.heap.size w w'))
    case atStart => exact ⟨(0), (by first | rfl | (simp; done) | (simp [*]; done)), H', ⟨by repeat (first | exact HB.out | exact Below.refl _ _ | apply below_alloc | apply pw_below_drewN | apply below_drew1)⟩⟩
    case round =>
      clear H' HB
      try clear c3b0
      try clear c3b1
      try clear c3b2
      obtain ⟨x5_1, rfl, HA, HB⟩ := hrel
      cases gk with
      | zero => exact absurd HA.out (by simp [eqfRels.l0])
      | succ k1 =>
        have H := HA.out
        clear HA
        simp only [eqfRels.l0] at H
        by_cases c4 : x5_1 < (l0.length : Int)
        · rw [if_pos c4] at H
          have c4b0 : decide (x5_1 < (l0.length : Int)) = true := decide_eq_true c4
          by_cases c5 : 0 ≤ x5_1
          · rw [if_pos c5] at H
            have c5b0 : decide (0 ≤ x5_1) = true := decide_eq_true c5
            by_cases c6 : x5_1 < (l1.length : Int)
            · rw [if_pos c6] at H
              have c6b0 : decide (x5_1 < (l1.length : Int)) = true := decide_eq_true c6
              replace H := Option.bind_eq_some_iff.mp H
              obtain ⟨t283, A70, H⟩ := H
              replace H : (if t283 = true then (eqfRels.l0 k1 l0 l1 (wrap64 (x5_1 + 1))) else (some false)) = some r := H
              have A7 := Aside0.mk A70
              clear A70
              obtain ⟨ad1, P2, d2, P3, d3, e281, hx0, hx1, hx2, hx3, hlp2, hkp2, hlp3, hkp3⟩ := at_T44 HR0.out x5_1 c5 c4
              obtain ⟨ad2, Q2, e2, Q3, e3, e282, hy0, hy1, hy2, hy3, hlq2, hkq2, hlq3, hkq3⟩ := at_T44 HR1.out x5_1 c5 c6
              cases e281
              cases e282
              replace hx0 := pw_cell_below HB.out hx0
              replace hx1 := pw_cell_below HB.out hx1
              replace hx2 := pw_cell_below HB.out hx2
              replace hx3 := pw_cell_below HB.out hx3
              have Y0 := Aside0.mk hy0
              have Y1 := Aside0.mk hy1
              have Y2 := Aside0.mk hy2
              have Y3 := Aside0.mk hy3
              have L2 := Aside0.mk hlp2
              have L3 := Aside0.mk hlp3
              have M2 := Aside0.mk hlq2
              have M3 := Aside0.mk hlq3
              have K2 := Aside0.mk hkp2
              have K3 := Aside0.mk hkp3
              have J2 := Aside0.mk hkq2
              have J3 := Aside0.mk hkq3
              clear hy0 hy1 hy2 hy3 hlp2 hlp3 hlq2 hlq3 hkp2 hkp3 hkq2 hkq3
              generalize rd_T44 l0 x5_1 = xa at hx0 hx1 hx2 hx3 L2 L3 K2 K3 A7
              generalize rd_T44 l1 x5_1 = xb at Y0 Y1 Y2 Y3 M2 M3 J2 J3 A7
              replace c4 := eq_true c4
              replace c5 := eq_true c5
              replace c6 := eq_true c6
              cases t283 with
              | true =>
                rw [if_pos rfl] at H
                have H' := Aside0.mk H
                clear H
                go_wp2_with (first | ((with_reducible refine gate_dst (N := 8) rfl ?_); refine box_event ?hg (N := 8) ?hd (cs := #[.int .i64 0, .int .i64 0, .slice none 0 0, .slice none 0 0]) (t := 44) ?hr ?_; (case hd => rfl); (case hg => rfl); (case hr => first | (go_simp; done) | (go_simp; rfl)); intro g1 hg w1 hbox hb; have n1_ := Aside0.mk (below_step (by repeat (first | exact HB.out | apply below_alloc | apply pw_below_drewN | apply below_drew1)) hb); have GEg1 := Aside0.mk ((by rw [hg]; exact (below_size (by repeat (first | exact HB.out | apply below_alloc | apply pw_below_drewN | apply below_drew1))) : w.heap.size ≤ g1)); clear HB; have HB := n1_; have Bg1 := Aside0.mk hbox; clear n1_ hb hbox hg; have q0 : w1.cell? ⟨g1, 0, none⟩ = some (.int .i64 0) := (blk_cell Bg1.out 0).trans rfl; have q1 : w1.cell? ⟨g1, 1, none⟩ = some (.int .i64 0) := (blk_cell Bg1.out 1).trans rfl; have q2 : w1.cell? ⟨g1, 2, none⟩ = some (.slice none 0 0) := (blk_cell Bg1.out 2).trans rfl; have q3 : w1.cell? ⟨g1, 3, none⟩ = some (.slice none 0 0) := (blk_cell Bg1.out 3).trans rfl; have u0 := blk_frozen Bg1.out 0; have u1 := blk_frozen Bg1.out 1; have u2 := blk_frozen Bg1.out 2; have u3 := blk_frozen Bg1.out 3) | ((with_reducible refine gate_store (t := 44) (p := 8) rfl ?_); refine store_event (t := 44) (p := 8) (v := .tmp 21) (w1 := ((((w1.setCell ⟨g1, 0, none⟩ (.int .i64 xa.f0)).setCell ⟨g1, 1, none⟩ (.int .i64 xa.f1)).setCell ⟨g1, 2, none⟩ (.slice P2 xa.f2.length d2)).setCell ⟨g1, 3, none⟩ (.slice P3 xa.f3.length d3))) ?hg ?ho ?hn ?hr ?_; (case ho => rfl); (case hg => rfl); (case hn => rfl); (case hr => first | (go_simp; done) | (go_simp; rfl)); intro w2 hw; have n0_ := Aside0.mk (show w2.heap[g1]? = some (.cells #[.int .i64 xa.f0, .int .i64 xa.f1, .slice P2 xa.f2.length d2, .slice P3 xa.f3.length d3] 44 (0, 0)) by rw [hw]; simpa using (blk_set (blk_set (blk_set (blk_set Bg1.out 0 (.int .i64 xa.f0)) 1 (.int .i64 xa.f1)) 2 (.slice P2 xa.f2.length d2)) 3 (.slice P3 xa.f3.length d3))); have n1_ := Aside0.mk (show Below w.heap.size w w2 by rw [hw]; exact (below_set (below_set (below_set (below_set HB.out GEg1.out) GEg1.out) GEg1.out) GEg1.out)); clear Bg1 HB hw q0 q1 q2 q3 u0 u1 u2 u3; have Bg1 := n0_; have HB := n1_; clear n0_ n1_; have hy0 := pw_cell_below HB.out Y0.out; have hy1 := pw_cell_below HB.out Y1.out; have hy2 := pw_cell_below HB.out Y2.out; have hy3 := pw_cell_below HB.out Y3.out) | ((with_reducible refine gate_dst (N := 9) rfl ?_); refine box_event ?hg (N := 9) ?hd (cs := #[.int .i64 0, .int .i64 0, .slice none 0 0, .slice none 0 0]) (t := 44) ?hr ?_; (case hd => rfl); (case hg => rfl); (case hr => first | (go_simp; done) | (go_simp; rfl)); intro g2 hg w3 hbox hb; have n1_ := Aside0.mk (below_step (by repeat (first | exact HB.out | apply below_alloc | apply pw_below_drewN | apply below_drew1)) hb); have GEg2 := Aside0.mk ((by rw [hg]; exact (below_size (by repeat (first | exact HB.out | apply below_alloc | apply pw_below_drewN | apply below_drew1))) : w.heap.size ≤ g2)); have m0_ := Aside0.mk (blk_below (by (with_reducible repeat (first | refine blk_drewN ?_ _ | refine blk_drew ?_ | refine blk_alloc ?_ _)); exact Bg1.out) hb); have NE := Aside0.mk ((by rw [hg]; exact Nat.ne_of_lt (blk_lt (by (with_reducible repeat (first | refine blk_drewN ?_ _ | refine blk_drew ?_ | refine blk_alloc ?_ _)); exact Bg1.out)) : g1 ≠ g2)); clear Bg1; have Bg1 := m0_; clear m0_; clear HB; have HB := n1_; have Bg2 := Aside0.mk hbox; clear n1_ hb hbox hg; have q0 : w3.cell? ⟨g2, 0, none⟩ = some (.int .i64 0) := (blk_cell Bg2.out 0).trans rfl; have q1 : w3.cell? ⟨g2, 1, none⟩ = some (.int .i64 0) := (blk_cell Bg2.out 1).trans rfl; have q2 : w3.cell? ⟨g2, 2, none⟩ = some (.slice none 0 0) := (blk_cell Bg2.out 2).trans rfl; have q3 : w3.cell? ⟨g2, 3, none⟩ = some (.slice none 0 0) := (blk_cell Bg2.out 3).trans rfl; have u0 := blk_frozen Bg2.out 0; have u1 := blk_frozen Bg2.out 1; have u2 := blk_frozen Bg2.out 2; have u3 := blk_frozen Bg2.out 3) | ((with_reducible refine gate_store (t := 44) (p := 9) rfl ?_); refine store_event (t := 44) (p := 9) (v := .tmp 25) (w1 := ((((w3.setCell ⟨g2, 0, none⟩ (.int .i64 xb.f0)).setCell ⟨g2, 1, none⟩ (.int .i64 xb.f1)).setCell ⟨g2, 2, none⟩ (.slice Q2 xb.f2.length e2)).setCell ⟨g2, 3, none⟩ (.slice Q3 xb.f3.length e3))) ?hg ?ho ?hn ?hr ?_; (case ho => rfl); (case hg => rfl); (case hn => rfl); (case hr => first | (go_simp; done) | (go_simp; rfl)); intro w4 hw; have n0_ := Aside0.mk (show w4.heap[g2]? = some (.cells #[.int .i64 xb.f0, .int .i64 xb.f1, .slice Q2 xb.f2.length e2, .slice Q3 xb.f3.length e3] 44 (0, 0)) by rw [hw]; simpa using (blk_set (blk_set (blk_set (blk_set Bg2.out 0 (.int .i64 xb.f0)) 1 (.int .i64 xb.f1)) 2 (.slice Q2 xb.f2.length e2)) 3 (.slice Q3 xb.f3.length e3))); have n1_ := Aside0.mk (show Below w.heap.size w w4 by rw [hw]; exact (below_set (below_set (below_set (below_set HB.out GEg2.out) GEg2.out) GEg2.out) GEg2.out)); have m0_ := Aside0.mk (show w4.heap[g1]? = some (.cells #[.int .i64 xa.f0, .int .i64 xa.f1, .slice P2 xa.f2.length d2, .slice P3 xa.f3.length d3] 44 (0, 0)) by rw [hw]; exact (blk_far (blk_far (blk_far (blk_far Bg1.out (p := ⟨g2, 0, none⟩) NE.out (.int .i64 xb.f0)) (p := ⟨g2, 1, none⟩) NE.out (.int .i64 xb.f1)) (p := ⟨g2, 2, none⟩) NE.out (.slice Q2 xb.f2.length e2)) (p := ⟨g2, 3, none⟩) NE.out (.slice Q3 xb.f3.length e3))); clear Bg1; have Bg1 := m0_; clear m0_; clear Bg2 HB hw q0 q1 q2 q3 u0 u1 u2 u3; have Bg2 := n0_; have HB := n1_; clear n0_ n1_; have zg10 : w4.cell? ⟨g1, 0, none⟩ = some (.int .i64 xa.f0) := (blk_cell Bg1.out 0).trans rfl; have zg11 : w4.cell? ⟨g1, 1, none⟩ = some (.int .i64 xa.f1) := (blk_cell Bg1.out 1).trans rfl; have zg12 : w4.cell? ⟨g1, 2, none⟩ = some (.slice P2 xa.f2.length d2) := (blk_cell Bg1.out 2).trans rfl; have zg13 : w4.cell? ⟨g1, 3, none⟩ = some (.slice P3 xa.f3.length d3) := (blk_cell Bg1.out 3).trans rfl; have zg20 : w4.cell? ⟨g2, 0, none⟩ = some (.int .i64 xb.f0) := (blk_cell Bg2.out 0).trans rfl; have zg21 : w4.cell? ⟨g2, 1, none⟩ = some (.int .i64 xb.f1) := (blk_cell Bg2.out 1).trans rfl; have zg22 : w4.cell? ⟨g2, 2, none⟩ = some (.slice Q2 xb.f2.length e2) := (blk_cell Bg2.out 2).trans rfl; have zg23 : w4.cell? ⟨g2, 3, none⟩ = some (.slice Q3 xb.f3.length e3) := (blk_cell Bg2.out 3).trans rfl) | (go_at_call 31; (with_reducible refine (impl_SameRelation.calls k1 xa.f0 xa.f1 _ _ xa.f2 _ _ xa.f3 xb.f0 xb.f1 _ _ xb.f2 _ _ xb.f3 true _ ?s1 ?s2 ?s3 ?s4 ?s5 ?s6 ?s7 ?s8 A7.out).mono ?_); (case s1 => repeat (first | exact Kd.C_below K2.out HB.out | (with_reducible refine Kd.C_alloc ?_ _) | (with_reducible refine Kd.C_drewN ?_ _) | (with_reducible refine Kd.C_drew ?_))); (case s2 => exact L2.out); (case s3 => repeat (first | exact Kd.C_below K3.out HB.out | (with_reducible refine Kd.C_alloc ?_ _) | (with_reducible refine Kd.C_drewN ?_ _) | (with_reducible refine Kd.C_drew ?_))); (case s4 => exact L3.out); (case s5 => repeat (first | exact Kd.C_below J2.out HB.out | (with_reducible refine Kd.C_alloc ?_ _) | (with_reducible refine Kd.C_drewN ?_ _) | (with_reducible refine Kd.C_drew ?_))); (case s6 => exact M2.out); (case s7 => repeat (first | exact Kd.C_below J3.out HB.out | (with_reducible refine Kd.C_alloc ?_ _) | (with_reducible refine Kd.C_drewN ?_ _) | (with_reducible refine Kd.C_drew ?_))); (case s8 => exact M3.out); rintro e w6 ⟨rfl, hb⟩; have n1_ := Aside0.mk (below_step (by repeat (first | exact HB.out | apply below_alloc | apply pw_below_drewN | apply below_drew1)) hb); clear HB; have HB := n1_; clear n1_ hb))
                go_roundg k1
                case measure => omega
                case rel => exact ⟨(wrap64 (x5_1 + 1)), (by first | rfl | (simp; done) | (simp [*]; done)), H', ⟨by repeat (first | exact HB.out | apply below_alloc | apply pw_below_drewN | apply below_drew1)⟩⟩
              | false =>
                rw [if_neg (show ¬ (false = true) by decide)] at H
                obtain rfl := Option.some.inj H
                clear H
                go_wp2_with (first | ((with_reducible refine gate_dst (N := 8) rfl ?_); refine box_event ?hg (N := 8) ?hd (cs := #[.int .i64 0, .int .i64 0, .slice none 0 0, .slice none 0 0]) (t := 44) ?hr ?_; (case hd => rfl); (case hg => rfl); (case hr => first | (go_simp; done) | (go_simp; rfl)); intro g1 hg w1 hbox hb; have n1_ := Aside0.mk (below_step (by repeat (first | exact HB.out | apply below_alloc | apply pw_below_drewN | apply below_drew1)) hb); have GEg1 := Aside0.mk ((by rw [hg]; exact (below_size (by repeat (first | exact HB.out | apply below_alloc | apply pw_below_drewN | apply below_drew1))) : w.heap.size ≤ g1)); clear HB; have HB := n1_; have Bg1 := Aside0.mk hbox; clear n1_ hb hbox hg; have q0 : w1.cell? ⟨g1, 0, none⟩ = some (.int .i64 0) := (blk_cell Bg1.out 0).trans rfl; have q1 : w1.cell? ⟨g1, 1, none⟩ = some (.int .i64 0) := (blk_cell Bg1.out 1).trans rfl; have q2 : w1.cell? ⟨g1, 2, none⟩ = some (.slice none 0 0) := (blk_cell Bg1.out 2).trans rfl; have q3 : w1.cell? ⟨g1, 3, none⟩ = some (.slice none 0 0) := (blk_cell Bg1.out 3).trans rfl; have u0 := blk_frozen Bg1.out 0; have u1 := blk_frozen Bg1.out 1; have u2 := blk_frozen Bg1.out 2; have u3 := blk_frozen Bg1.out 3) | ((with_reducible refine gate_store (t := 44) (p := 8) rfl ?_); refine store_event (t := 44) (p := 8) (v := .tmp 21) (w1 := ((((w1.setCell ⟨g1, 0, none⟩ (.int .i64 xa.f0)).setCell ⟨g1, 1, none⟩ (.int .i64 xa.f1)).setCell ⟨g1, 2, none⟩ (.slice P2 xa.f2.length d2)).setCell ⟨g1, 3, none⟩ (.slice P3 xa.f3.length d3))) ?hg ?ho ?hn ?hr ?_; (case ho => rfl); (case hg => rfl); (case hn => rfl); (case hr => first | (go_simp; done) | (go_simp; rfl)); intro w2 hw; have n0_ := Aside0.mk (show w2.heap[g1]? = some (.cells #[.int .i64 xa.f0, .int .i64 xa.f1, .slice P2 xa.f2.length d2, .slice P3 xa.f3.length d3] 44 (0, 0)) by rw [hw]; simpa using (blk_set (blk_set (blk_set (blk_set Bg1.out 0 (.int .i64 xa.f0)) 1 (.int .i64 xa.f1)) 2 (.slice P2 xa.f2.length d2)) 3 (.slice P3 xa.f3.length d3))); have n1_ := Aside0.mk (show Below w.heap.size w w2 by rw [hw]; exact (below_set (below_set (below_set (below_set HB.out GEg1.out) GEg1.out) GEg1.out) GEg1.out)); clear Bg1 HB hw q0 q1 q2 q3 u0 u1 u2 u3; have Bg1 := n0_; have HB := n1_; clear n0_ n1_; have hy0 := pw_cell_below HB.out Y0.out; have hy1 := pw_cell_below HB.out Y1.out; have hy2 := pw_cell_below HB.out Y2.out; have hy3 := pw_cell_below HB.out Y3.out) | ((with_reducible refine gate_dst (N := 9) rfl ?_); refine box_event ?hg (N := 9) ?hd (cs := #[.int .i64 0, .int .i64 0, .slice none 0 0, .slice none 0 0]) (t := 44) ?hr ?_; (case hd => rfl); (case hg => rfl); (case hr => first | (go_simp; done) | (go_simp; rfl)); intro g2 hg w3 hbox hb; have n1_ := Aside0.mk (below_step (by repeat (first | exact HB.out | apply below_alloc | apply pw_below_drewN | apply below_drew1)) hb); have GEg2 := Aside0.mk ((by rw [hg]; exact (below_size (by repeat (first | exact HB.out | apply below_alloc | apply pw_below_drewN | apply below_drew1))) : w.heap.size ≤ g2)); have m0_ := Aside0.mk (blk_below (by (with_reducible repeat (first | refine blk_drewN ?_ _ | refine blk_drew ?_ | refine blk_alloc ?_ _)); exact Bg1.out) hb); have NE := Aside0.mk ((by rw [hg]; exact Nat.ne_of_lt (blk_lt (by (with_reducible repeat (first | refine blk_drewN ?_ _ | refine blk_drew ?_ | refine blk_alloc ?_ _)); exact Bg1.out)) : g1 ≠ g2)); clear Bg1; have Bg1 := m0_; clear m0_; clear HB; have HB := n1_; have Bg2 := Aside0.mk hbox; clear n1_ hb hbox hg; have q0 : w3.cell? ⟨g2, 0, none⟩ = some (.int .i64 0) := (blk_cell Bg2.out 0).trans rfl; have q1 : w3.cell? ⟨g2, 1, none⟩ = some (.int .i64 0) := (blk_cell Bg2.out 1).trans rfl; have q2 : w3.cell? ⟨g2, 2, none⟩ = some (.slice none 0 0) := (blk_cell Bg2.out 2).trans rfl; have q3 : w3.cell? ⟨g2, 3, none⟩ = some (.slice none 0 0) := (blk_cell Bg2.out 3).trans rfl; have u0 := blk_frozen Bg2.out 0; have u1 := blk_frozen Bg2.out 1; have u2 := blk_frozen Bg2.out 2; have u3 := blk_frozen Bg2.out 3) | ((with_reducible refine gate_store (t := 44) (p := 9) rfl ?_); refine store_event (t := 44) (p := 9) (v := .tmp 25) (w1 := ((((w3.setCell ⟨g2, 0, none⟩ (.int .i64 xb.f0)).setCell ⟨g2, 1, none⟩ (.int .i64 xb.f1)).setCell ⟨g2, 2, none⟩ (.slice Q2 xb.f2.length e2)).setCell ⟨g2, 3, none⟩ (.slice Q3 xb.f3.length e3))) ?hg ?ho ?hn ?hr ?_; (case ho => rfl); (case hg => rfl); (case hn => rfl); (case hr => first | (go_simp; done) | (go_simp; rfl)); intro w4 hw; have n0_ := Aside0.mk (show w4.heap[g2]? = some (.cells #[.int .i64 xb.f0, .int .i64 xb.f1, .slice Q2 xb.f2.length e2, .slice Q3 xb.f3.length e3] 44 (0, 0)) by rw [hw]; simpa using (blk_set (blk_set (blk_set (blk_set Bg2.out 0 (.int .i64 xb.f0)) 1 (.int .i64 xb.f1)) 2 (.slice Q2 xb.f2.length e2)) 3 (.slice Q3 xb.f3.length e3))); have n1_ := Aside0.mk (show Below w.heap.size w w4 by rw [hw]; exact (below_set (below_set (below_set (below_set HB.out GEg2.out) GEg2.out) GEg2.out) GEg2.out)); have m0_ := Aside0.mk (show w4.heap[g1]? = some (.cells #[.int .i64 xa.f0, .int .i64 xa.f1, .slice P2 xa.f2.length d2, .slice P3 xa.f3.length d3] 44 (0, 0)) by rw [hw]; exact (blk_far (blk_far (blk_far (blk_far Bg1.out (p := ⟨g2, 0, none⟩) NE.out (.int .i64 xb.f0)) (p := ⟨g2, 1, none⟩) NE.out (.int .i64 xb.f1)) (p := ⟨g2, 2, none⟩) NE.out (.slice Q2 xb.f2.length e2)) (p := ⟨g2, 3, none⟩) NE.out (.slice Q3 xb.f3.length e3))); clear Bg1; have Bg1 := m0_; clear m0_; clear Bg2 HB hw q0 q1 q2 q3 u0 u1 u2 u3; have Bg2 := n0_; have HB := n1_; clear n0_ n1_; have zg10 : w4.cell? ⟨g1, 0, none⟩ = some (.int .i64 xa.f0) := (blk_cell Bg1.out 0).trans rfl; have zg11 : w4.cell? ⟨g1, 1, none⟩ = some (.int .i64 xa.f1) := (blk_cell Bg1.out 1).trans rfl; have zg12 : w4.cell? ⟨g1, 2, none⟩ = some (.slice P2 xa.f2.length d2) := (blk_cell Bg1.out 2).trans rfl; have zg13 : w4.cell? ⟨g1, 3, none⟩ = some (.slice P3 xa.f3.length d3) := (blk_cell Bg1.out 3).trans rfl; have zg20 : w4.cell? ⟨g2, 0, none⟩ = some (.int .i64 xb.f0) := (blk_cell Bg2.out 0).trans rfl; have zg21 : w4.cell? ⟨g2, 1, none⟩ = some (.int .i64 xb.f1) := (blk_cell Bg2.out 1).trans rfl; have zg22 : w4.cell? ⟨g2, 2, none⟩ = some (.slice Q2 xb.f2.length e2) := (blk_cell Bg2.out 2).trans rfl; have zg23 : w4.cell? ⟨g2, 3, none⟩ = some (.slice Q3 xb.f3.length e3) := (blk_cell Bg2.out 3).trans rfl) | (go_at_call 31; (with_reducible refine (impl_SameRelation.calls k1 xa.f0 xa.f1 _ _ xa.f2 _ _ xa.f3 xb.f0 xb.f1 _ _ xb.f2 _ _ xb.f3 false _ ?s1 ?s2 ?s3 ?s4 ?s5 ?s6 ?s7 ?s8 A7.out).mono ?_); (case s1 => repeat (first | exact Kd.C_below K2.out HB.out | (with_reducible refine Kd.C_alloc ?_ _) | (with_reducible refine Kd.C_drewN ?_ _) | (with_reducible refine Kd.C_drew ?_))); (case s2 => exact L2.out); (case s3 => repeat (first | exact Kd.C_below K3.out HB.out | (with_reducible refine Kd.C_alloc ?_ _) | (with_reducible refine Kd.C_drewN ?_ _) | (with_reducible refine Kd.C_drew ?_))); (case s4 => exact L3.out); (case s5 => repeat (first | exact Kd.C_below J2.out HB.out | (with_reducible refine Kd.C_alloc ?_ _) | (with_reducible refine Kd.C_drewN ?_ _) | (with_reducible refine Kd.C_drew ?_))); (case s6 => exact M2.out); (case s7 => repeat (first | exact Kd.C_below J3.out HB.out | (with_reducible refine Kd.C_alloc ?_ _) | (with_reducible refine Kd.C_drewN ?_ _) | (with_reducible refine Kd.C_drew ?_))); (case s8 => exact M3.out); rintro e w6 ⟨rfl, hb⟩; have n1_ := Aside0.mk (below_step (by repeat (first | exact HB.out | apply below_alloc | apply pw_below_drewN | apply below_drew1)) hb); clear HB; have HB := n1_; clear n1_ hb))
                go_ret
                exact ⟨by first | rfl | (simp; done) | (simp [*]; done), by repeat (first | exact HB.out | apply below_alloc | apply pw_below_drewN | apply below_drew1)⟩
            · rw [if_neg c6] at H
              exact absurd H (by simp)
          · rw [if_neg c5] at H
            exact absurd H (by simp)
        · rw [if_neg c4] at H
          have c4b0 : decide (x5_1 < (l0.length : Int)) = false := decide_eq_false c4
          clear c4
          obtain rfl := Option.some.inj H
          go_wp2
          go_ret
          exact ⟨by first | rfl | (simp; done) | (simp [*]; done), by repeat (first | exact HB.out | apply below_alloc | apply pw_below_drewN | apply below_drew1)⟩
  · rw [if_neg c3] at H
    have c3b0 : ((l0.length : Int) == (l1.length : Int)) = false := beq_eq_false_iff_ne.mpr c3
    have c3b1 : ((l0.length : Int) != (l1.length : Int)) = true := bne_iff_ne.mpr c3
    have c3b2 : (l0.length == l1.length) = false := by first | simpa using c3 | (simp at c3 ⊢; omega)
    clear c3
    obtain rfl := Option.some.inj H
    go_enter Try.func73, Try.ntmps73
    go_wp2
    go_ret
    exact ⟨by first | rfl | (simp; done) | (simp [*]; done), by repeat (first | exact Below.refl _ _ | apply below_alloc | apply pw_below_drewN | apply below_drew1)⟩
def impl_SamePresentation.f (k : Nat) (a0_0 : Int) (a0_1 : Int) (l0_2 : List Bool) (l0_3 : List (List Int)) (l0_4 : List (S44)) (a1_0 : Int) (a1_1 : Int) (l1_2 : List Bool) (l1_3 : List (List Int)) (l1_4 : List (S44)) : Option (Bool) := (impl_SameRelation.f k a0_0 a0_1 l0_2 l0_3 a1_0 a1_1 l1_2 l1_3).bind fun t => if t = true then (eqfRels.f k l0_4 l1_4) else (some false)
theorem impl_SamePresentation.mono : ∀ a0 a1 a2 a3 a4 b0 b1 b2 b3 b4 k, LeO (impl_SamePresentation.f k a0 a1 a2 a3 a4 b0 b1 b2 b3 b4) (impl_SamePresentation.f (k + 1) a0 a1 a2 a3 a4 b0 b1 b2 b3 b4) := by
  intro a0 a1 a2 a3 a4 b0 b1 b2 b3 b4 k
  unfold impl_SamePresentation.f
  repeat' first
      | (with_reducible exact impl_SameRelation.mono _ _ _ _ _ _ _ _ _)
      | (with_reducible exact eqfRels.mono _ _ _)
      | (with_reducible exact LeO.refl _)
      | (with_reducible refine LeO.ite ?_ ?_)
      | (with_reducible refine LeO.bind ?_ (fun _ => ?_))
set_option maxHeartbeats 8000000 in
set_option maxRecDepth 100000 in
theorem impl_SamePresentation.calls (k : Nat) (a0_0 : Int) (a0_1 : Int) (A0_2 : Option Addr) (c0_2 : Nat) (l0_2 : List Bool) (A0_3 : Option Addr) (c0_3 : Nat) (l0_3 : List (List Int)) (A0_4 : Option Addr) (c0_4 : Nat) (l0_4 : List (S44)) (a1_0 : Int) (a1_1 : Int) (A1_2 : Option Addr) (c1_2 : Nat) (l1_2 : List Bool) (A1_3 : Option Addr) (c1_3 : Nat) (l1_3 : List (List Int)) (A1_4 : Option Addr) (c1_4 : Nat) (l1_4 : List (S44)) (r : Bool) (w : World)
    (hr0_2 : Kd.C Kd.bool w A0_2 l0_2.length l0_2) (hc0_2 : l0_2.length ≤ c0_2) (hr0_3 : Kd.C (Kd.slice 2 (Kd.int .i64)) w A0_3 l0_3.length l0_3) (hc0_3 : l0_3.length ≤ c0_3) (hr0_4 : Kd.C k44 w A0_4 l0_4.length l0_4) (hc0_4 : l0_4.length ≤ c0_4) (hr1_2 : Kd.C Kd.bool w A1_2 l1_2.length l1_2) (hc1_2 : l1_2.length ≤ c1_2) (hr1_3 : Kd.C (Kd.slice 2 (Kd.int .i64)) w A1_3 l1_3.length l1_3) (hc1_3 : l1_3.length ≤ c1_3) (hr1_4 : Kd.C k44 w A1_4 l1_4.length l1_4) (hc1_4 : l1_4.length ≤ c1_4) (h : impl_SamePresentation.f k a0_0 a0_1 l0_2 l0_3 l0_4 a1_0 a1_1 l1_2 l1_3 l1_4 = some r) :
    Calls Try.prog 37 #[.agg #[.int .i64 a0_0, .int .i64 a0_1, .slice A0_2 l0_2.length c0_2, .slice A0_3 l0_3.length c0_3, .slice A0_4 l0_4.length c0_4], .agg #[.int .i64 a1_0, .int .i64 a1_1, .slice A1_2 l1_2.length c1_2, .slice A1_3 l1_3.length c1_3, .slice A1_4 l1_4.length c1_4]] w fun e w' => e = .returned (.bool r) ∧ Below w.heap.size w w' := by
  have hu44 := Try.underlying44
  have HA := Aside0.mk hr0_2
  have HAc := Aside0.mk hc0_2
  have HB := Aside0.mk hr0_3
  have HBc := Aside0.mk hc0_3
  have HC := Aside0.mk hr1_2
  have HCc := Aside0.mk hc1_2
  have HD := Aside0.mk hr1_3
  have HDc := Aside0.mk hc1_3
  have HE := Aside0.mk hr0_4
  have HF := Aside0.mk hr1_4
  clear hr0_2 hr0_3 hr1_2 hr1_3 hc0_2 hc0_3 hc1_2 hc1_3 hr0_4 hr1_4 hc0_4 hc1_4
  obtain ⟨t, h3, H⟩ := Option.bind_eq_some_iff.mp (show (impl_SameRelation.f k a0_0 a0_1 l0_2 l0_3 a1_0 a1_1 l1_2 l1_3).bind (fun t => if t = true then (eqfRels.f k l0_4 l1_4) else (some false)) = some r from h)
  have H3 := Aside0.mk h3
  clear h h3
  cases t with
  | true =>
    rw [if_pos rfl] at H
    have H4 := Aside0.mk H
    clear H
    go_enter Try.func37, Try.ntmps37
    go_wp2_with (first | (go_at_call 31; (with_reducible refine (impl_SameRelation.calls k a0_0 a0_1 _ _ l0_2 _ _ l0_3 a1_0 a1_1 _ _ l1_2 _ _ l1_3 true _ ?s1 ?s2 ?s3 ?s4 ?s5 ?s6 ?s7 ?s8 H3.out).mono ?_); (case s1 => repeat (first | exact HA.out | (with_reducible refine Kd.C_alloc ?_ _) | (with_reducible refine Kd.C_drewN ?_ _) | (with_reducible refine Kd.C_drew ?_))); (case s3 => repeat (first | exact HB.out | (with_reducible refine Kd.C_alloc ?_ _) | (with_reducible refine Kd.C_drewN ?_ _) | (with_reducible refine Kd.C_drew ?_))); (case s5 => repeat (first | exact HC.out | (with_reducible refine Kd.C_alloc ?_ _) | (with_reducible refine Kd.C_drewN ?_ _) | (with_reducible refine Kd.C_drew ?_))); (case s7 => repeat (first | exact HD.out | (with_reducible refine Kd.C_alloc ?_ _) | (with_reducible refine Kd.C_drewN ?_ _) | (with_reducible refine Kd.C_drew ?_))); (case s2 => exact HAc.out); (case s4 => exact HBc.out); (case s6 => exact HCc.out); (case s8 => exact HDc.out); rintro e w5 ⟨rfl, hb⟩; have HZ : Aside0 (Below w.heap.size w w5) := Aside0.mk (below_step (by repeat (first | (with_reducible exact Below.refl _ _) | apply below_alloc | apply pw_below_drewN | apply below_drew1)) hb); have z0 : w5.cell? ⟨w.heap.size, 4, none⟩ = some (.slice A0_4 l0_4.length c0_4) := (blk_cell (blk_below (o := .cells #[.int .i64 a0_0, .int .i64 a0_1, .slice A0_2 l0_2.length c0_2, .slice A0_3 l0_3.length c0_3, .slice A0_4 l0_4.length c0_4] 59 (0, 0)) (by (with_reducible repeat (first | refine blk_drewN ?_ _ | refine blk_drew ?_)); exact blk_alloc (blk_new w _) _) hb) 4).trans rfl; have z1 : w5.cell? ⟨w.heap.size + 1, 4, none⟩ = some (.slice A1_4 l1_4.length c1_4) := (blk_cell (blk_below (o := .cells #[.int .i64 a1_0, .int .i64 a1_1, .slice A1_2 l1_2.length c1_2, .slice A1_3 l1_3.length c1_3, .slice A1_4 l1_4.length c1_4] 59 (0, 0)) (by (with_reducible repeat (first | refine blk_drewN ?_ _ | refine blk_drew ?_)); exact (by have q_ := blk_new (w.alloc (.cells #[.int .i64 a0_0, .int .i64 a0_1, .slice A0_2 l0_2.length c0_2, .slice A0_3 l0_3.length c0_3, .slice A0_4 l0_4.length c0_4] 59)) (.cells #[.int .i64 a1_0, .int .i64 a1_1, .slice A1_2 l1_2.length c1_2, .slice A1_3 l1_3.length c1_3, .slice A1_4 l1_4.length c1_4] 59); simpa using q_)) hb) 4).trans rfl; clear hb) | (go_at_call 73; (with_reducible refine (eqfRels.calls k _ _ l0_4 _ _ l1_4 r _ ?s1 ?s3 H4.out).mono ?_); (case s1 => repeat (first | exact Kd.C_below HE.out HZ.out | (with_reducible refine Kd.C_alloc ?_ _) | (with_reducible refine Kd.C_drewN ?_ _))); (case s3 => repeat (first | exact Kd.C_below HF.out HZ.out | (with_reducible refine Kd.C_alloc ?_ _) | (with_reducible refine Kd.C_drewN ?_ _))); rintro e w' ⟨rfl, hb2⟩; have HY := Aside0.mk (below_step (by repeat (first | exact HZ.out | apply pw_below_drewN | apply below_drew1)) hb2); clear hb2 HZ))
    go_ret
    exact ⟨by first | rfl | (simp; done) | (simp [*]; done), by repeat (first | exact HY.out | apply pw_below_drewN | apply below_drew1)⟩
  | false =>
    rw [if_neg (show ¬ (false = true) by decide)] at H
    obtain rfl := Option.some.inj H
    clear H
    go_enter Try.func37, Try.ntmps37
    go_wp2_with (first | (go_at_call 31; (with_reducible refine (impl_SameRelation.calls k a0_0 a0_1 _ _ l0_2 _ _ l0_3 a1_0 a1_1 _ _ l1_2 _ _ l1_3 false _ ?s1 ?s2 ?s3 ?s4 ?s5 ?s6 ?s7 ?s8 H3.out).mono ?_); (case s1 => repeat (first | exact HA.out | (with_reducible refine Kd.C_alloc ?_ _) | (with_reducible refine Kd.C_drewN ?_ _) | (with_reducible refine Kd.C_drew ?_))); (case s3 => repeat (first | exact HB.out | (with_reducible refine Kd.C_alloc ?_ _) | (with_reducible refine Kd.C_drewN ?_ _) | (with_reducible refine Kd.C_drew ?_))); (case s5 => repeat (first | exact HC.out | (with_reducible refine Kd.C_alloc ?_ _) | (with_reducible refine Kd.C_drewN ?_ _) | (with_reducible refine Kd.C_drew ?_))); (case s7 => repeat (first | exact HD.out | (with_reducible refine Kd.C_alloc ?_ _) | (with_reducible refine Kd.C_drewN ?_ _) | (with_reducible refine Kd.C_drew ?_))); (case s2 => exact HAc.out); (case s4 => exact HBc.out); (case s6 => exact HCc.out); (case s8 => exact HDc.out); rintro e w5 ⟨rfl, hb⟩; have HZ : Aside0 (Below w.heap.size w w5) := Aside0.mk (below_step (by repeat (first | (with_reducible exact Below.refl _ _) | apply below_alloc | apply pw_below_drewN | apply below_drew1)) hb); clear hb))
    go_ret
    exact ⟨by first | rfl | (simp; done) | (simp [*]; done), by repeat (first | exact HZ.out | apply pw_below_drewN | apply below_drew1)⟩

end Go.Proofs.Ytbbkhkipnkejmaa.X
