import Derived.Test.YtelicdmaohllgaaDoorRows
import Derived.Test.YtelicdmaohllgaaDoorCO2
import Derived.Test.YtelicdmaohllgaaDoorCards
import Derived.Test.YtelicdmaohllgaaDoorTie
import Derived.WalkKit
import Derived.ProofKit
import Derived.OpenShut
import Derived.ShutString
import Derived.ChangeOld
import Derived.Below
import Derived.SizedLaws
import Derived.ChangeVars
import Derived.JoinedOf
import Derived.JoinedAt
import Derived.LaidLaws
import Derived.SevenTiedAt
-- Written by a program of this claim's author.
namespace Go.Proofs.YtelicdmaohllgaaDoor.fnExactColumnsOf
open Go.ChangeShapes Go.WideShapes Go.ChangeAt Go.RowKit
open Go.ChangeMaps (open_string shut_string)
set_option linter.unusedVariables false
theorem own : ownKnob Tryd.prog.godebug = none := by kernel_rfl
theorem laidOut : laidOutB Tryd.prog = true := by kernel_rfl
set_option maxRecDepth 100000 in
theorem lifted (os : Os) (started : os.Started) (H : Type) (enc : TypeId × Value → H) :
    ReturnsInHanded {} Tryd.checked os 4 .any (fun w args => (Rows.fnExactColumnsOfSpec.pre enc Tryd.prog Tryd.f4 Rows.fnExactColumnsOfRow.domain false w args ∧ laidMet Tryd.prog X.laidU w) ∧ sizedMet enc Tryd.prog Tryd.f4 (OpenSpec.ofChange Rows.fnExactColumnsOfSpec) false w args) (Rows.fnExactColumnsOfSpec.post enc Tryd.prog Tryd.f4 false true false false) := by
  refine returnsInHanded_of_change_and (C := Tryd.checked) (X := fun w _ => laidMet Tryd.prog X.laidU w) (fun _ _ _ hh h => h.of_heap hh) own started (by kernel_rfl) Tryd.func4
    (ChangeSpec.witness_at (enc := enc) (C := Tryd.checked) (os := os) (X := fun w _ => laidMet Tryd.prog X.laidU w) false (X.laidWorldU os) #[.slice none 0 0] 8 rfl (by kernel_rfl) (by kernel_rfl) (by kernel_rfl) (by kernel_rfl) (by kernel_rfl) (X.laidWorldU_met os _)) ?_
  intro W base args ds gs before hval0 hW _ hsz0 hL _
  have hval : ∀ (j : Nat) t v, Tryd.f4.params[j]? = some t → args[j]? = some v → Value.okWide Tryd.prog W .any base t v := hval0
  have hW' := hW
  obtain ⟨p, q, hA0, hV, rfl, hfz, hnd⟩ := hW
  have hA : DataW.TrodAll enc Tryd.prog W 0 (fun _ => true) true Tryd.f4.params.toList args.toList ds p := hA0
  rw [Tryd.params4] at hA hval
  obtain ⟨v0, vs0, d0, ds0, p0, q0, hargs, rfl, rfl, h0, r0⟩ := trodAll_cons hA
  obtain ⟨rfl, rfl, rfl⟩ := trodAll_nil r0
  obtain rfl : args = #[v0] := by cases args; simp_all
  obtain ⟨rfl, rfl⟩ := trodVars_none hV
  have k0 := h0
  have lt0 : ∀ x ∈ p0, x.block < W.heap.size := by obtain ⟨m, hm⟩ := k0; exact DataW.trod_lt m _ _ _ hm
  obtain ⟨A0, c0, l0, rfl, g0, gc0, b0, bw0⟩ := X.open_strs (hval 0 23 v0 rfl rfl) h0
  clear hA0 hval0 hsz0
  obtain ⟨n_, hn_⟩ := Pure.FnExactColumnsOf l0 b0 bw0
  refine (X.laws_FnExactColumnsOf.calls n_ A0 c0 l0 true W g0 gc0 hn_).mono fun e W' ⟨he, bel⟩ => ?_
  subst he
  exact ⟨_, rfl, _, _, _, [], _, [], hW', trodAll_mk1 (shut_bool Tryd.underlying4 _), (trodAll_cons_mk (Below.trod laidOut (by kernel_rfl) (of_decide_eq_true (by kernel_rfl)) k0 bel lt0) trodAll_mk0), rfl, bel.frame _, fun h => by cases h⟩
theorem ov1 : Tryd.pinned.checked.prog.funcNamed Rows.fnExactColumnsOfRow.func = some 4 := by kernel_rfl
theorem ov2 : joinedFacts Tryd.pinned.checked.prog 4 Tryd.f4 Rows.fnExactColumnsOfSpec Rows.fnExactColumnsOfRow = true := by kernel_rfl
theorem over : Rows.fnExactColumnsOfRow.holds Tryd.pinned (OpenSpec.ofChange Rows.fnExactColumnsOfSpec) :=
  OpenClaim.holds_of_wide 4 Tryd.f4 rfl rfl rfl rfl rfl rfl rfl ⟨rfl, rfl, rfl, rfl, rfl⟩ rfl rfl rfl rfl rfl ov1 Tryd.func4 ov2
    (of_decide_eq_true (by kernel_rfl)) (by unfold Func.isWrapper; first | (rw [if_pos (by decide +kernel)]; kernel_rfl) | (rw [if_neg (by decide +kernel)]; exact ⟨rfl, rfl⟩))
    (fun os started H enc _ => lifted os started H enc)
set_option maxRecDepth 100000 in
theorem proved : Rows.FnExactColumnsOfCardSaid :=
  Claim7.holds_tied_plain_at .later [] Rows.fnExactColumnsOfCard.laidKinds true (true, "0c7ba4238cc5b18ce93ff7ca11a5332e08856aff23ce2f214aee8337654ec517") true
    over (fun _ h => by cases h) (by kernel_rfl) (fun _ h => by cases h) fnExactColumnsOf_row_tie rfl ⟨rfl, rfl⟩ (by kernel_rfl) rfl
    (fun f fn hf hfn => by
      obtain rfl : f = 4 := Option.some.inj ((show Tryd.prog.funcNamed "loop.example/g01168/laws.FnExactColumnsOf" = some 4 by kernel_rfl).symm.trans hf) |>.symm
      obtain rfl : fn = Tryd.f4 := (Option.some.inj (Tryd.func4.symm.trans hfn)).symm
      refine ⟨by kernel_rfl, fun j t ht => ?_⟩
      have hall : (Tryd.f4.params.toList.all fun t => !Tryd.prog.wantsStandIn t) = true := by kernel_rfl
      have := List.all_eq_true.1 hall t (Array.mem_def.1 (Array.mem_of_getElem? ht))
      exact (show Tryd.prog.wantsStandIn t = false by simpa using this))
    (by kernel_rfl)
#print axioms proved
end Go.Proofs.YtelicdmaohllgaaDoor.fnExactColumnsOf
namespace Go.Proofs.YtelicdmaohllgaaDoor
/-- The row, under a short name, for the claim. -/
theorem fnExactColumnsOf_holds : Rows.FnExactColumnsOfCardSaid := fnExactColumnsOf.proved
end Go.Proofs.YtelicdmaohllgaaDoor
