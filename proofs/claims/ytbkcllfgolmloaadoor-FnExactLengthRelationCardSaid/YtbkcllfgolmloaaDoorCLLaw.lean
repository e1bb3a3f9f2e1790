import Derived.Test.YtbkcllfgolmloaaDoorRows
import Derived.Test.YtbkcllfgolmloaaDoorCL10
import Derived.Test.YtbkcllfgolmloaaDoorCL11
import Derived.Test.YtbkcllfgolmloaaDoorCL12
-- Written by this claim's author: the closed relations' laws, side by side.
namespace Go.Proofs.YtbkcllfgolmloaaDoor
/-- The laws of the closed relations, side by side. -/
theorem closed_all : Rows.FnExactIsPrefixRelationCardSaid ∧ Rows.FnExactOrderRelationCardSaid ∧ Rows.FnExactSuccessorRelationCardSaid ∧ Rows.FnExactLengthRelationCardSaid := ⟨fnExactIsPrefixRelation_holds, fnExactOrderRelation_holds, fnExactSuccessorRelation_holds, fnExactLengthRelation_holds⟩
end Go.Proofs.YtbkcllfgolmloaaDoor
