import Derived.Test.YtelicdmaohllgaaDoorRows
import Derived.Test.YtelicdmaohllgaaDoorCAP9
import Derived.Test.YtelicdmaohllgaaDoorCAP10
import Derived.Test.YtelicdmaohllgaaDoorCards
import Derived.Test.YtelicdmaohllgaaDoorTie
import Derived.WalkKit
import Derived.ProofKit
import Derived.OpenShut
import Derived.ShutString
import Derived.ChangeOld
import Derived.Below
import Derived.SizedLaws
import Derived.ChangeVars
import Derived.JoinedOf
import Derived.JoinedAt
import Derived.LaidLaws
import Derived.SevenTiedAt
-- Written by a program of this claim's author.
import Derived.Test.YtelicdmaohllgaaDoorCAPRow
import Derived.Test.YtelicdmaohllgaaDoorCAPMain
import Derived.Test.YtelicdmaohllgaaDoorCAPGoes
namespace Go.Proofs.YtelicdmaohllgaaDoor.fnExactCountAll
open Go.ChangeShapes Go.WideShapes Go.ChangeAt Go.RowKit
open Go.ChangeMaps (open_string shut_string)
set_option linter.unusedVariables false
set_option maxRecDepth 100000 in
theorem proved : Rows.FnExactCountAllCardSaid :=
  Claim7.holds_tied_plain_at .later [] Rows.fnExactCountAllCard.laidKinds true (true, "0c7ba4238cc5b18ce93ff7ca11a5332e08856aff23ce2f214aee8337654ec517") true
    over (fun _ h => by cases h) (by kernel_rfl) (fun _ h => by cases h) fnExactCountAll_row_tie rfl ⟨rfl, rfl⟩ pm rfl
    (fun f fn hf hfn => by
      obtain rfl : f = 10 := Option.some.inj (ov1.symm.trans hf) |>.symm
      obtain rfl : fn = Tryd.f10 := (Option.some.inj (Tryd.func10.symm.trans hfn)).symm
      refine ⟨by kernel_rfl, fun j t ht => ?_⟩
      have hall : (Tryd.f10.params.toList.all fun t => !Tryd.prog.wantsStandIn t) = true := by kernel_rfl
      have := List.all_eq_true.1 hall t (Array.mem_def.1 (Array.mem_of_getElem? ht))
      exact (show Tryd.prog.wantsStandIn t = false by simpa using this))
    pg
#print axioms proved
end Go.Proofs.YtelicdmaohllgaaDoor.fnExactCountAll
namespace Go.Proofs.YtelicdmaohllgaaDoor
/-- The row, under a short name, for the claim. -/
theorem fnExactCountAll_holds : Rows.FnExactCountAllCardSaid := fnExactCountAll.proved
end Go.Proofs.YtelicdmaohllgaaDoor
