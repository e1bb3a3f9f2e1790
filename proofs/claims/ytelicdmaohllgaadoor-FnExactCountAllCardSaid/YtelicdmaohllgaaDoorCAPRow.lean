import Derived.Test.YtelicdmaohllgaaDoorRows
import Derived.Test.YtelicdmaohllgaaDoorCAP9
import Derived.Test.YtelicdmaohllgaaDoorCAP10
import Derived.Test.YtelicdmaohllgaaDoorCards
import Derived.Test.YtelicdmaohllgaaDoorTie
import Derived.WalkKit
import Derived.ProofKit
import Derived.OpenShut
import Derived.ShutString
import Derived.ChangeOld
import Derived.Below
import Derived.SizedLaws
import Derived.ChangeVars
import Derived.JoinedOf
import Derived.JoinedAt
import Derived.LaidLaws
import Derived.SevenTiedAt
-- Written by a program of this claim's author.
namespace Go.Proofs.YtelicdmaohllgaaDoor.fnExactCountAll
open Go.ChangeShapes Go.WideShapes Go.ChangeAt Go.RowKit
open Go.ChangeMaps (open_string shut_string)
set_option linter.unusedVariables false
theorem own : ownKnob Tryd.prog.godebug = none := by kernel_rfl
theorem laidOut : laidOutB Tryd.prog = true := by kernel_rfl
set_option maxRecDepth 100000 in
theorem lifted (os : Os) (started : os.Started) (H : Type) (enc : TypeId × Value → H) :
    ReturnsInHanded {} Tryd.checked os 10 .any (fun w args => (Rows.fnExactCountAllSpec.pre enc Tryd.prog Tryd.f10 Rows.fnExactCountAllRow.domain false w args ∧ laidMet Tryd.prog X.laid3 w) ∧ sizedMet enc Tryd.prog Tryd.f10 (OpenSpec.ofChange Rows.fnExactCountAllSpec) false w args) (Rows.fnExactCountAllSpec.post enc Tryd.prog Tryd.f10 false true false false) := by
  refine returnsInHanded_of_change_and (C := Tryd.checked) (X := fun w _ => laidMet Tryd.prog X.laid3 w) (fun _ _ _ hh h => h.of_heap hh) own started (by kernel_rfl) Tryd.func10
    (ChangeSpec.witness_at (enc := enc) (C := Tryd.checked) (os := os) (X := fun w _ => laidMet Tryd.prog X.laid3 w) false (X.laidWorld os) #[.agg #[.int .i64 0, .int .i64 0, .slice none 0 0, .slice none 0 0]] 8 rfl (by kernel_rfl) (by kernel_rfl) (by kernel_rfl) (by kernel_rfl) (by kernel_rfl) (X.laidWorld_met os _)) ?_
  intro W base args ds gs before hval0 hW _ hsz0 hL _
  have hval : ∀ (j : Nat) t v, Tryd.f10.params[j]? = some t → args[j]? = some v → Value.okWide Tryd.prog W .any base t v := hval0
  have hW' := hW
  obtain ⟨p, q, hA0, hV, rfl, hfz, hnd⟩ := hW
  have hA : DataW.TrodAll enc Tryd.prog W 0 (fun _ => true) true Tryd.f10.params.toList args.toList ds p := hA0
  rw [Tryd.params10] at hA hval
  obtain ⟨v0, vs0, d0, ds0, p0, q0, hargs, rfl, rfl, h0, r0⟩ := trodAll_cons hA
  obtain ⟨rfl, rfl, rfl⟩ := trodAll_nil r0
  obtain rfl : args = #[v0] := by cases args; simp_all
  obtain ⟨rfl, rfl⟩ := trodVars_none hV
  have k0 := h0
  have lt0 : ∀ x ∈ p0, x.block < W.heap.size := by obtain ⟨m, hm⟩ := k0; exact DataW.trod_lt m _ _ _ hm
  obtain ⟨t0, s0, A02, c02, l02, A03, c03, l03, rfl, wt0, ws0, g02, g02c, g03, g03c, b02, b03, b0r, b0w⟩ := X.open_rel (hval 0 46 v0 rfl rfl) h0
  clear hA0 hval0 hsz0
  obtain ⟨n_, hn_⟩ := Pure.FnExactCountAll t0 s0 l02 l03 b02 b03 b0r
  refine (X.laws_FnExactCountAll.calls n_ t0 s0 A02 c02 l02 A03 c03 l03 W (X.tabOK_of hL) g02 g02c g03 g03c hn_).mono fun e W' ⟨he, bel⟩ => ?_
  subst he
  exact ⟨_, rfl, _, _, _, [], _, [], hW', trodAll_mk1 (shut_bool Tryd.underlying4 _), (trodAll_cons_mk (Below.trod laidOut (by kernel_rfl) (of_decide_eq_true (by kernel_rfl)) k0 bel lt0) trodAll_mk0), rfl, bel.frame _, fun h => by cases h⟩
theorem ov1 : Tryd.pinned.checked.prog.funcNamed Rows.fnExactCountAllRow.func = some 10 := by kernel_rfl
theorem ov2 : joinedFacts Tryd.pinned.checked.prog 10 Tryd.f10 Rows.fnExactCountAllSpec Rows.fnExactCountAllRow = true := by kernel_rfl
theorem over : Rows.fnExactCountAllRow.holds Tryd.pinned (OpenSpec.ofChange Rows.fnExactCountAllSpec) :=
  OpenClaim.holds_of_wide 10 Tryd.f10 rfl rfl rfl rfl rfl rfl rfl ⟨rfl, rfl, rfl, rfl, rfl⟩ rfl rfl rfl rfl rfl ov1 Tryd.func10 ov2
    (of_decide_eq_true (by kernel_rfl)) (by unfold Func.isWrapper; first | (rw [if_pos (by decide +kernel)]; kernel_rfl) | (rw [if_neg (by decide +kernel)]; exact ⟨rfl, rfl⟩))
    (fun os started H enc _ => lifted os started H enc)
end Go.Proofs.YtelicdmaohllgaaDoor.fnExactCountAll
