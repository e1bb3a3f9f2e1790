-- Written by a program of this claim's author, out of the translation.
import Derived.Test.YtbbkhkipnkejmaaXx0
import Derived.Test.YtbbkhkipnkejmaaXx34
import Derived.Test.YtbbkhkipnkejmaaXx35
namespace Go.Proofs.Ytbbkhkipnkejmaa.X
open Go.RowKit Go.Proofs.YtbbkhkipnkejmaaW.PrintWords Go.Proofs.YtbbkhkipnkejmaaW.PrintLast Go.Proofs.YtbbkhkipnkejmaaW.PrintMore
attribute [local go_sem] max2_int min2_int max_two min_two max_three min_three max_four min_four   -- for this text's walks alone
set_option linter.unusedVariables false
set_option linter.unusedSimpArgs false

/-! ### spec_ValidRelation: function 26 -/
def spec_ValidRelation.f (k : Nat) (a0 : Int) (a1 : Int) (l2 : List Bool) (l3 : List (List Int)) : Option (Bool) := (spec_l01Ok.f k a0 a1 l2 l3).bind fun b => some b.1
theorem spec_ValidRelation.mono : ∀ a0 a1 l2 l3 k, LeO (spec_ValidRelation.f k a0 a1 l2 l3) (spec_ValidRelation.f (k + 1) a0 a1 l2 l3) := by
  intro a0 a1 l2 l3 k
  unfold spec_ValidRelation.f
  exact LeO.bind (spec_l01Ok.mono _ _ _ _ _) (fun _ => LeO.refl _)
set_option maxHeartbeats 8000000 in
set_option maxRecDepth 100000 in
theorem spec_ValidRelation.calls (k : Nat) (a0 : Int) (a1 : Int) (A2 : Option Addr) (c2 : Nat) (l2 : List Bool) (A3 : Option Addr) (c3 : Nat) (l3 : List (List Int)) (r : Bool) (w : World) (hr2 : Kd.C Kd.bool w A2 l2.length l2) (hc2 : l2.length ≤ c2) (hr3 : Kd.C (Kd.slice 2 (Kd.int .i64)) w A3 l3.length l3) (hc3 : l3.length ≤ c3) (h : spec_ValidRelation.f k a0 a1 l2 l3 = some r) :
    Calls Try.prog 26 #[.agg #[.int .i64 a0, .int .i64 a1, .slice A2 l2.length c2, .slice A3 l3.length c3]] w fun e w' => e = .returned (.bool r) ∧ Below w.heap.size w w' := by
  obtain ⟨⟨r1, r2, r3⟩, h1, h2⟩ := Option.bind_eq_some_iff.mp h
  obtain rfl := Option.some.inj h2
  have H1 := Aside0.mk h1
  have HI := Aside0.mk (IsS44.new w w A2 c2 A3 c3 a0 a1 l2 l3 (Below.refl _ _) hr2 hr3)
  clear h h1 h2 hr2 hr3 hc2 hc3
  go_enter Try.func26, Try.ntmps26
  go_wp2_with (go_at_call 55; refine (spec_l01Ok.calls k w.heap.size a0 a1 l2 l3 r1 r2 r3 w _ HI.out (below_alloc (Below.refl _ _) _) H1.out).mono ?_; rintro e w' ⟨rfl, hi, hb, hk⟩)
  go_ret
  exact ⟨rfl, hb⟩


end Go.Proofs.Ytbbkhkipnkejmaa.X
