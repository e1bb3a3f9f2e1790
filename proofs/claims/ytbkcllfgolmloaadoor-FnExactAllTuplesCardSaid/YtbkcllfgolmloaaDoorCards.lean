/-
  DERIVED. GIVEN WITH THE SEED: THE CARDS: each row of YtbkcllfgolmloaaDoorRows.lean that lists a variable, with what it lists TIED to the program's text (the seventh form; the later family's looks); each row that meets fmt, with fmt's text TOLD by the authors' own Lean function (tested against real Go, not proved from fmt's source: count such statements apart). THE CARD IS WHAT COUNTS. Prove the row's statement (the work); the ties are given (YtbkcllfgolmloaaDoorTie.lean); close each card by the builder's one call (the guide's Derived/Test/ToyasCard.lean, 'card_holds'). Laid BY PROGRAM, IN A SANDBOX (cutbox-door.mjs). By AI agents, Wed Nov 11 2026. No macro, syntax, notation, axiom, sorry.
-/
import Derived.Test.YtbkcllfgolmloaaDoorRows
import GoSem.ClaimSeven
namespace Go.Proofs.YtbkcllfgolmloaaDoor
namespace Rows

/-- THE TIED CARD OF 'laws.FnExactRelationText'. -/
def fnExactRelationTextCard : Claim7 := { stood := { row := fnExactRelationTextRow, standIns := [], harness := (true, "f51c4824e2bc35f367135000083f29c5ec74c549effb7d54f23c468ffd466c0d"), looks := false }, kinds := [], alts := [], laidByText := true, laidKinds := [.data, .data, .data], laidTests := true, laidLooks := .later }
def FnExactRelationTextCardSaid : Prop := Claim7.holds Tryd.pinned (.plain (OpenSpec.ofChange fnExactRelationTextSpec)) fnExactRelationTextCard

/-- THE TIED CARD OF 'laws.FnExactFreeVariables'. -/
def fnExactFreeVariablesCard : Claim7 := { stood := { row := fnExactFreeVariablesRow, standIns := [], harness := (true, "f51c4824e2bc35f367135000083f29c5ec74c549effb7d54f23c468ffd466c0d"), looks := false }, kinds := [], alts := [], laidByText := true, laidKinds := [.data, .pinned], laidTests := true, laidLooks := .later }
def FnExactFreeVariablesCardSaid : Prop := Claim7.holds Tryd.pinned (.plain (OpenSpec.ofChange fnExactFreeVariablesSpec)) fnExactFreeVariablesCard

/-- THE TIED CARD OF 'laws.FnExactHolds'. -/
def fnExactHoldsCard : Claim7 := { stood := { row := fnExactHoldsRow, standIns := [], harness := (true, "f51c4824e2bc35f367135000083f29c5ec74c549effb7d54f23c468ffd466c0d"), looks := false }, kinds := [], alts := [], laidByText := true, laidKinds := [.data, .pinned], laidTests := true, laidLooks := .later }
def FnExactHoldsCardSaid : Prop := Claim7.holds Tryd.pinned (.plain (OpenSpec.ofChange fnExactHoldsSpec)) fnExactHoldsCard

/-- THE TIED CARD OF 'laws.FnExactAllTuples'. -/
def fnExactAllTuplesCard : Claim7 := { stood := { row := fnExactAllTuplesRow, standIns := [], harness := (true, "f51c4824e2bc35f367135000083f29c5ec74c549effb7d54f23c468ffd466c0d"), looks := false }, kinds := [], alts := [], laidByText := true, laidKinds := [.data, .data, .data], laidTests := true, laidLooks := .later }
def FnExactAllTuplesCardSaid : Prop := Claim7.holds Tryd.pinned (.plain (OpenSpec.ofChange fnExactAllTuplesSpec)) fnExactAllTuplesCard

/-- THE TIED CARD OF 'laws.FnExactEqualWords'. -/
def fnExactEqualWordsCard : Claim7 := { stood := { row := fnExactEqualWordsRow, standIns := [], harness := (true, "f51c4824e2bc35f367135000083f29c5ec74c549effb7d54f23c468ffd466c0d"), looks := false }, kinds := [], alts := [], laidByText := true, laidKinds := [.data, .data, .data], laidTests := true, laidLooks := .later }
def FnExactEqualWordsCardSaid : Prop := Claim7.holds Tryd.pinned (.plain (OpenSpec.ofChange fnExactEqualWordsSpec)) fnExactEqualWordsCard

/-- THE TIED CARD OF 'laws.FnExactIsPrefixRelation'. -/
def fnExactIsPrefixRelationCard : Claim7 := { stood := { row := fnExactIsPrefixRelationRow, standIns := [], harness := (true, "f51c4824e2bc35f367135000083f29c5ec74c549effb7d54f23c468ffd466c0d"), looks := false }, kinds := [], alts := [], laidByText := true, laidKinds := [.data, .data, .data], laidTests := true, laidLooks := .later }
def FnExactIsPrefixRelationCardSaid : Prop := Claim7.holds Tryd.pinned (.plain (OpenSpec.ofChange fnExactIsPrefixRelationSpec)) fnExactIsPrefixRelationCard

/-- THE TIED CARD OF 'laws.FnExactSuccessorRelation'. -/
def fnExactSuccessorRelationCard : Claim7 := { stood := { row := fnExactSuccessorRelationRow, standIns := [], harness := (true, "f51c4824e2bc35f367135000083f29c5ec74c549effb7d54f23c468ffd466c0d"), looks := false }, kinds := [], alts := [], laidByText := true, laidKinds := [.data, .data, .data], laidTests := true, laidLooks := .later }
def FnExactSuccessorRelationCardSaid : Prop := Claim7.holds Tryd.pinned (.plain (OpenSpec.ofChange fnExactSuccessorRelationSpec)) fnExactSuccessorRelationCard

/-- THE TIED CARD OF 'laws.FnExactLengthRelation'. -/
def fnExactLengthRelationCard : Claim7 := { stood := { row := fnExactLengthRelationRow, standIns := [], harness := (true, "f51c4824e2bc35f367135000083f29c5ec74c549effb7d54f23c468ffd466c0d"), looks := false }, kinds := [], alts := [], laidByText := true, laidKinds := [.data, .data, .data], laidTests := true, laidLooks := .later }
def FnExactLengthRelationCardSaid : Prop := Claim7.holds Tryd.pinned (.plain (OpenSpec.ofChange fnExactLengthRelationSpec)) fnExactLengthRelationCard

/-- THE TIED CARD OF 'laws.FnExactOrderRelation'. -/
def fnExactOrderRelationCard : Claim7 := { stood := { row := fnExactOrderRelationRow, standIns := [], harness := (true, "f51c4824e2bc35f367135000083f29c5ec74c549effb7d54f23c468ffd466c0d"), looks := false }, kinds := [], alts := [], laidByText := true, laidKinds := [.data, .data, .data], laidTests := true, laidLooks := .later }
def FnExactOrderRelationCardSaid : Prop := Claim7.holds Tryd.pinned (.plain (OpenSpec.ofChange fnExactOrderRelationSpec)) fnExactOrderRelationCard

/-- THE TIED CARD OF 'laws.FnExactTidyRelation'. -/
def fnExactTidyRelationCard : Claim7 := { stood := { row := fnExactTidyRelationRow, standIns := [], harness := (true, "f51c4824e2bc35f367135000083f29c5ec74c549effb7d54f23c468ffd466c0d"), looks := false }, kinds := [], alts := [], laidByText := true, laidKinds := [.data, .data, .data], laidTests := true, laidLooks := .later }
def FnExactTidyRelationCardSaid : Prop := Claim7.holds Tryd.pinned (.plain (OpenSpec.ofChange fnExactTidyRelationSpec)) fnExactTidyRelationCard

/-- THE TIED CARD OF 'laws.FnExactIsEmpty'. -/
def fnExactIsEmptyCard : Claim7 := { stood := { row := fnExactIsEmptyRow, standIns := [], harness := (true, "f51c4824e2bc35f367135000083f29c5ec74c549effb7d54f23c468ffd466c0d"), looks := false }, kinds := [], alts := [], laidByText := true, laidKinds := [.data, .data, .data], laidTests := true, laidLooks := .later }
def FnExactIsEmptyCardSaid : Prop := Claim7.holds Tryd.pinned (.plain (OpenSpec.ofChange fnExactIsEmptySpec)) fnExactIsEmptyCard

/-- THE SECOND FORM's CARD OF 'laws.FnExactRelationText'. -/
def fnExactRelationTextUptoCard : Claim7 := { stood := { row := fnExactRelationTextUptoRow, standIns := [], harness := (true, "f51c4824e2bc35f367135000083f29c5ec74c549effb7d54f23c468ffd466c0d"), looks := false }, kinds := [], alts := [], laidByText := true, laidKinds := [.data, .data, .data], laidTests := true, laidLooks := .later }
def FnExactRelationTextUptoCardSaid : Prop := Claim7.holds Tryd.pinned (.plain (OpenSpec.upto fnExactRelationTextSpec)) fnExactRelationTextUptoCard

/-- THE SECOND FORM's CARD OF 'laws.FnExactFreeVariables'. -/
def fnExactFreeVariablesUptoCard : Claim7 := { stood := { row := fnExactFreeVariablesUptoRow, standIns := [], harness := (true, "f51c4824e2bc35f367135000083f29c5ec74c549effb7d54f23c468ffd466c0d"), looks := false }, kinds := [], alts := [], laidByText := true, laidKinds := [.data, .pinned], laidTests := true, laidLooks := .later }
def FnExactFreeVariablesUptoCardSaid : Prop := Claim7.holds Tryd.pinned (.plain (OpenSpec.upto fnExactFreeVariablesSpec)) fnExactFreeVariablesUptoCard

/-- THE SECOND FORM's CARD OF 'laws.FnExactHolds'. -/
def fnExactHoldsUptoCard : Claim7 := { stood := { row := fnExactHoldsUptoRow, standIns := [], harness := (true, "f51c4824e2bc35f367135000083f29c5ec74c549effb7d54f23c468ffd466c0d"), looks := false }, kinds := [], alts := [], laidByText := true, laidKinds := [.data, .pinned], laidTests := true, laidLooks := .later }
def FnExactHoldsUptoCardSaid : Prop := Claim7.holds Tryd.pinned (.plain (OpenSpec.upto fnExactHoldsSpec)) fnExactHoldsUptoCard

/-- THE SECOND FORM's CARD OF 'laws.FnExactAllTuples'. -/
def fnExactAllTuplesUptoCard : Claim7 := { stood := { row := fnExactAllTuplesUptoRow, standIns := [], harness := (true, "f51c4824e2bc35f367135000083f29c5ec74c549effb7d54f23c468ffd466c0d"), looks := false }, kinds := [], alts := [], laidByText := true, laidKinds := [.data, .data, .data], laidTests := true, laidLooks := .later }
def FnExactAllTuplesUptoCardSaid : Prop := Claim7.holds Tryd.pinned (.plain (OpenSpec.upto fnExactAllTuplesSpec)) fnExactAllTuplesUptoCard

/-- THE SECOND FORM's CARD OF 'laws.FnExactEqualWords'. -/
def fnExactEqualWordsUptoCard : Claim7 := { stood := { row := fnExactEqualWordsUptoRow, standIns := [], harness := (true, "f51c4824e2bc35f367135000083f29c5ec74c549effb7d54f23c468ffd466c0d"), looks := false }, kinds := [], alts := [], laidByText := true, laidKinds := [.data, .data, .data], laidTests := true, laidLooks := .later }
def FnExactEqualWordsUptoCardSaid : Prop := Claim7.holds Tryd.pinned (.plain (OpenSpec.upto fnExactEqualWordsSpec)) fnExactEqualWordsUptoCard

/-- THE SECOND FORM's CARD OF 'laws.FnExactIsPrefixRelation'. -/
def fnExactIsPrefixRelationUptoCard : Claim7 := { stood := { row := fnExactIsPrefixRelationUptoRow, standIns := [], harness := (true, "f51c4824e2bc35f367135000083f29c5ec74c549effb7d54f23c468ffd466c0d"), looks := false }, kinds := [], alts := [], laidByText := true, laidKinds := [.data, .data, .data], laidTests := true, laidLooks := .later }
def FnExactIsPrefixRelationUptoCardSaid : Prop := Claim7.holds Tryd.pinned (.plain (OpenSpec.upto fnExactIsPrefixRelationSpec)) fnExactIsPrefixRelationUptoCard

/-- THE SECOND FORM's CARD OF 'laws.FnExactSuccessorRelation'. -/
def fnExactSuccessorRelationUptoCard : Claim7 := { stood := { row := fnExactSuccessorRelationUptoRow, standIns := [], harness := (true, "f51c4824e2bc35f367135000083f29c5ec74c549effb7d54f23c468ffd466c0d"), looks := false }, kinds := [], alts := [], laidByText := true, laidKinds := [.data, .data, .data], laidTests := true, laidLooks := .later }
def FnExactSuccessorRelationUptoCardSaid : Prop := Claim7.holds Tryd.pinned (.plain (OpenSpec.upto fnExactSuccessorRelationSpec)) fnExactSuccessorRelationUptoCard

/-- THE SECOND FORM's CARD OF 'laws.FnExactLengthRelation'. -/
def fnExactLengthRelationUptoCard : Claim7 := { stood := { row := fnExactLengthRelationUptoRow, standIns := [], harness := (true, "f51c4824e2bc35f367135000083f29c5ec74c549effb7d54f23c468ffd466c0d"), looks := false }, kinds := [], alts := [], laidByText := true, laidKinds := [.data, .data, .data], laidTests := true, laidLooks := .later }
def FnExactLengthRelationUptoCardSaid : Prop := Claim7.holds Tryd.pinned (.plain (OpenSpec.upto fnExactLengthRelationSpec)) fnExactLengthRelationUptoCard

/-- THE SECOND FORM's CARD OF 'laws.FnExactOrderRelation'. -/
def fnExactOrderRelationUptoCard : Claim7 := { stood := { row := fnExactOrderRelationUptoRow, standIns := [], harness := (true, "f51c4824e2bc35f367135000083f29c5ec74c549effb7d54f23c468ffd466c0d"), looks := false }, kinds := [], alts := [], laidByText := true, laidKinds := [.data, .data, .data], laidTests := true, laidLooks := .later }
def FnExactOrderRelationUptoCardSaid : Prop := Claim7.holds Tryd.pinned (.plain (OpenSpec.upto fnExactOrderRelationSpec)) fnExactOrderRelationUptoCard

/-- THE SECOND FORM's CARD OF 'laws.FnExactTidyRelation'. -/
def fnExactTidyRelationUptoCard : Claim7 := { stood := { row := fnExactTidyRelationUptoRow, standIns := [], harness := (true, "f51c4824e2bc35f367135000083f29c5ec74c549effb7d54f23c468ffd466c0d"), looks := false }, kinds := [], alts := [], laidByText := true, laidKinds := [.data, .data, .data], laidTests := true, laidLooks := .later }
def FnExactTidyRelationUptoCardSaid : Prop := Claim7.holds Tryd.pinned (.plain (OpenSpec.upto fnExactTidyRelationSpec)) fnExactTidyRelationUptoCard

/-- THE SECOND FORM's CARD OF 'laws.FnExactIsEmpty'. -/
def fnExactIsEmptyUptoCard : Claim7 := { stood := { row := fnExactIsEmptyUptoRow, standIns := [], harness := (true, "f51c4824e2bc35f367135000083f29c5ec74c549effb7d54f23c468ffd466c0d"), looks := false }, kinds := [], alts := [], laidByText := true, laidKinds := [.data, .data, .data], laidTests := true, laidLooks := .later }
def FnExactIsEmptyUptoCardSaid : Prop := Claim7.holds Tryd.pinned (.plain (OpenSpec.upto fnExactIsEmptySpec)) fnExactIsEmptyUptoCard
end Rows
end Go.Proofs.YtbkcllfgolmloaaDoor
