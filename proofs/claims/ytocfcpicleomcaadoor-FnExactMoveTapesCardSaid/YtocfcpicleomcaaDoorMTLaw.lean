import Derived.Test.YtocfcpicleomcaaDoorRows
import Derived.Test.YtocfcpicleomcaaDoorMT10
import Derived.Test.YtocfcpicleomcaaDoorMT11
import Derived.Test.YtocfcpicleomcaaDoorCards
import Derived.Test.YtocfcpicleomcaaDoorTie
import Derived.WalkKit
import Derived.ProofKit
import Derived.OpenShut
import Derived.ShutString
import Derived.ChangeOld
import Derived.Below
import Derived.SizedLaws
import Derived.ChangeVars
import Derived.JoinedOf
import Derived.JoinedAt
import Derived.LaidLaws
import Derived.SevenTiedAt
-- Written by a program of this claim's author.
namespace Go.Proofs.YtocfcpicleomcaaDoor.fnExactMoveTapes
open Go.ChangeShapes Go.WideShapes Go.ChangeAt Go.RowKit
open Go.ChangeMaps (open_string shut_string)
set_option linter.unusedVariables false
theorem own : ownKnob Tryd.prog.godebug = none := by kernel_rfl
theorem laidOut : laidOutB Tryd.prog = true := by kernel_rfl
set_option maxRecDepth 100000 in
theorem lifted (os : Os) (started : os.Started) (H : Type) (enc : TypeId × Value → H) :
    ReturnsInHanded {} Tryd.checked os 10 .any (fun w args => (Rows.fnExactMoveTapesSpec.pre enc Tryd.prog Tryd.f10 Rows.fnExactMoveTapesRow.domain false w args ∧ laidMet Tryd.prog X.laid3 w) ∧ sizedMet enc Tryd.prog Tryd.f10 (OpenSpec.ofChange Rows.fnExactMoveTapesSpec) false w args) (Rows.fnExactMoveTapesSpec.post enc Tryd.prog Tryd.f10 false true false false) := by
  refine returnsInHanded_of_change_and (C := Tryd.checked) (X := fun w _ => laidMet Tryd.prog X.laid3 w) (fun _ _ _ hh h => h.of_heap hh) own started (by kernel_rfl) Tryd.func10
    (ChangeSpec.witness_at (enc := enc) (C := Tryd.checked) (os := os) (X := fun w _ => laidMet Tryd.prog X.laid3 w) false (X.laidWorld os) #[.agg #[.int .i64 0, .int .i64 0, .slice none 0 0, .slice none 0 0], .slice none 0 0] 8 rfl (by kernel_rfl) (by kernel_rfl) (by kernel_rfl) (by kernel_rfl) (by kernel_rfl) (X.laidWorld_met os _)) ?_
  intro W base args ds gs before hval0 hW _ hsz0 hL _
  have hval : ∀ (j : Nat) t v, Tryd.f10.params[j]? = some t → args[j]? = some v → Value.okWide Tryd.prog W .any base t v := hval0
  have hW' := hW
  obtain ⟨p, q, hA0, hV, rfl, hfz, hnd⟩ := hW
  have hA : DataW.TrodAll enc Tryd.prog W 0 (fun _ => true) true Tryd.f10.params.toList args.toList ds p := hA0
  rw [Tryd.params10] at hA hval
  obtain ⟨v0, vs0, d0, ds0, p0, q0, hargs, rfl, rfl, h0, r0⟩ := trodAll_cons hA
  obtain ⟨v1, vs1, d1, ds1, p1, q1, rfl, rfl, rfl, h1, r1⟩ := trodAll_cons r0
  obtain ⟨rfl, rfl, rfl⟩ := trodAll_nil r1
  obtain rfl : args = #[v0, v1] := by cases args; simp_all
  obtain ⟨rfl, rfl⟩ := trodVars_none hV
  have k0 := h0
  have lt0 : ∀ x ∈ p0, x.block < W.heap.size := by obtain ⟨m, hm⟩ := k0; exact DataW.trod_lt m _ _ _ hm
  obtain ⟨t0, s0, A02, c02, l02, A03, c03, l03, rfl, wt0, ws0, g02, g02c, g03, g03c, b02, b03, b0r, b0w⟩ := X.open_rel (hval 0 25 v0 rfl rfl) h0
  have k1 := h1
  have lt1 : ∀ x ∈ p1, x.block < W.heap.size := by obtain ⟨m, hm⟩ := k1; exact DataW.trod_lt m _ _ _ hm
  obtain ⟨A1, c1, l1, rfl, g1, gc1, b1, bw1⟩ := X.open_ints1 (hval 1 42 v1 rfl rfl) h1
  clear hA0 hval0 hsz0
  obtain ⟨n_, hn_⟩ := Pure.FnExactMoveTapes t0 s0 l02 l03 l1 b02 b03 b0r b1 bw1
  refine (X.laws_FnExactMoveTapes.calls n_ t0 s0 A02 c02 l02 A03 c03 l03 A1 c1 l1 W (X.tabOK_of hL) g02 g02c g03 g03c g1 gc1 hn_).mono fun e W' ⟨he, bel⟩ => ?_
  subst he
  exact ⟨_, rfl, _, _, _, [], _, [], hW', trodAll_mk1 (shut_bool Tryd.underlying4 _), (trodAll_cons_mk (Below.trod laidOut (by kernel_rfl) (of_decide_eq_true (by kernel_rfl)) k0 bel lt0) (trodAll_cons_mk (Below.trod laidOut (by kernel_rfl) (of_decide_eq_true (by kernel_rfl)) k1 bel lt1) trodAll_mk0)), rfl, bel.frame _, fun h => by cases h⟩
theorem ov1 : Tryd.pinned.checked.prog.funcNamed Rows.fnExactMoveTapesRow.func = some 10 := by kernel_rfl
theorem ov2 : joinedFacts Tryd.pinned.checked.prog 10 Tryd.f10 Rows.fnExactMoveTapesSpec Rows.fnExactMoveTapesRow = true := by kernel_rfl
theorem over : Rows.fnExactMoveTapesRow.holds Tryd.pinned (OpenSpec.ofChange Rows.fnExactMoveTapesSpec) :=
  OpenClaim.holds_of_wide 10 Tryd.f10 rfl rfl rfl rfl rfl rfl rfl ⟨rfl, rfl, rfl, rfl, rfl⟩ rfl rfl rfl rfl rfl ov1 Tryd.func10 ov2
    (of_decide_eq_true (by kernel_rfl)) (by unfold Func.isWrapper; first | (rw [if_pos (by decide +kernel)]; kernel_rfl) | (rw [if_neg (by decide +kernel)]; exact ⟨rfl, rfl⟩))
    (fun os started H enc _ => lifted os started H enc)
set_option maxRecDepth 100000 in
theorem proved : Rows.FnExactMoveTapesCardSaid :=
  Claim7.holds_tied_plain_at .later [] Rows.fnExactMoveTapesCard.laidKinds true (true, "4f0445d0f4ee1e5391f21bb4e2ff69a717dc836c8e9347e41e77015a9cbd7112") false
    over (fun _ h => by cases h) (by kernel_rfl) (fun _ h => by cases h) fnExactMoveTapes_row_tie rfl ⟨rfl, rfl⟩ (by kernel_rfl) rfl
    (fun f fn hf hfn => by
      obtain rfl : f = 10 := Option.some.inj ((show Tryd.prog.funcNamed "loop.example/g01168/laws.FnExactMoveTapes" = some 10 by kernel_rfl).symm.trans hf) |>.symm
      obtain rfl : fn = Tryd.f10 := (Option.some.inj (Tryd.func10.symm.trans hfn)).symm
      refine ⟨by kernel_rfl, fun j t ht => ?_⟩
      have hall : (Tryd.f10.params.toList.all fun t => !Tryd.prog.wantsStandIn t) = true := by kernel_rfl
      have := List.all_eq_true.1 hall t (Array.mem_def.1 (Array.mem_of_getElem? ht))
      exact (show Tryd.prog.wantsStandIn t = false by simpa using this))
    (by kernel_rfl)
#print axioms proved
end Go.Proofs.YtocfcpicleomcaaDoor.fnExactMoveTapes
namespace Go.Proofs.YtocfcpicleomcaaDoor
/-- The row, under a short name, for the claim. -/
theorem fnExactMoveTapes_holds : Rows.FnExactMoveTapesCardSaid := fnExactMoveTapes.proved
end Go.Proofs.YtocfcpicleomcaaDoor
