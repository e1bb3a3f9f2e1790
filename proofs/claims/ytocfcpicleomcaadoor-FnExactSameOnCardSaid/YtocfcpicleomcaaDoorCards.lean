/-
  DERIVED. GIVEN WITH THE SEED: THE CARDS: each row of YtocfcpicleomcaaDoorRows.lean that lists a variable, with what it lists TIED to the program's text (the seventh form; the later family's looks); each row that meets fmt, with fmt's text TOLD by the authors' own Lean function (tested against real Go, not proved from fmt's source: count such statements apart). THE CARD IS WHAT COUNTS. Prove the row's statement (the work); the ties are given (YtocfcpicleomcaaDoorTie.lean); close each card by the builder's one call (the guide's Derived/Test/ToyasCard.lean, 'card_holds'). Laid BY PROGRAM, IN A SANDBOX (cutbox-door.mjs). By AI agents, Wed Nov 11 2026. No macro, syntax, notation, axiom, sorry.
-/
import Derived.Test.YtocfcpicleomcaaDoorRows
import GoSem.ClaimSeven
namespace Go.Proofs.YtocfcpicleomcaaDoor
namespace Rows

/-- THE TIED CARD OF 'laws.FnExactAreEqual'. -/
def fnExactAreEqualCard : Claim7 := { stood := { row := fnExactAreEqualRow, standIns := [], harness := (true, "4f0445d0f4ee1e5391f21bb4e2ff69a717dc836c8e9347e41e77015a9cbd7112"), looks := false }, kinds := [], alts := [], laidByText := true, laidKinds := [.data, .data, .data], laidTests := true, laidLooks := .later }
def FnExactAreEqualCardSaid : Prop := Claim7.holds Tryd.pinned (.plain (OpenSpec.ofChange fnExactAreEqualSpec)) fnExactAreEqualCard

/-- THE TIED CARD OF 'laws.FnExactOppositeRelation'. -/
def fnExactOppositeRelationCard : Claim7 := { stood := { row := fnExactOppositeRelationRow, standIns := [], harness := (true, "4f0445d0f4ee1e5391f21bb4e2ff69a717dc836c8e9347e41e77015a9cbd7112"), looks := false }, kinds := [], alts := [], laidByText := true, laidKinds := [.data, .data, .data], laidTests := true, laidLooks := .later }
def FnExactOppositeRelationCardSaid : Prop := Claim7.holds Tryd.pinned (.plain (OpenSpec.ofChange fnExactOppositeRelationSpec)) fnExactOppositeRelationCard

/-- THE TIED CARD OF 'laws.FnExactSameOn'. -/
def fnExactSameOnCard : Claim7 := { stood := { row := fnExactSameOnRow, standIns := [], harness := (true, "4f0445d0f4ee1e5391f21bb4e2ff69a717dc836c8e9347e41e77015a9cbd7112"), looks := false }, kinds := [], alts := [], laidByText := true, laidKinds := [.data, .data, .data], laidTests := true, laidLooks := .later }
def FnExactSameOnCardSaid : Prop := Claim7.holds Tryd.pinned (.plain (OpenSpec.ofChange fnExactSameOnSpec)) fnExactSameOnCard

/-- THE TIED CARD OF 'laws.FnExactAddTape'. -/
def fnExactAddTapeCard : Claim7 := { stood := { row := fnExactAddTapeRow, standIns := [], harness := (true, "4f0445d0f4ee1e5391f21bb4e2ff69a717dc836c8e9347e41e77015a9cbd7112"), looks := false }, kinds := [], alts := [], laidByText := true, laidKinds := [.data, .data, .data], laidTests := true, laidLooks := .later }
def FnExactAddTapeCardSaid : Prop := Claim7.holds Tryd.pinned (.plain (OpenSpec.ofChange fnExactAddTapeSpec)) fnExactAddTapeCard

/-- THE TIED CARD OF 'laws.FnExactBothRelations'. -/
def fnExactBothRelationsCard : Claim7 := { stood := { row := fnExactBothRelationsRow, standIns := [], harness := (true, "4f0445d0f4ee1e5391f21bb4e2ff69a717dc836c8e9347e41e77015a9cbd7112"), looks := false }, kinds := [], alts := [], laidByText := true, laidKinds := [.data, .data, .data], laidTests := true, laidLooks := .later }
def FnExactBothRelationsCardSaid : Prop := Claim7.holds Tryd.pinned (.plain (OpenSpec.ofChange fnExactBothRelationsSpec)) fnExactBothRelationsCard

/-- THE TIED CARD OF 'laws.FnExactEitherRelation'. -/
def fnExactEitherRelationCard : Claim7 := { stood := { row := fnExactEitherRelationRow, standIns := [], harness := (true, "4f0445d0f4ee1e5391f21bb4e2ff69a717dc836c8e9347e41e77015a9cbd7112"), looks := false }, kinds := [], alts := [], laidByText := true, laidKinds := [.data, .data, .data], laidTests := true, laidLooks := .later }
def FnExactEitherRelationCardSaid : Prop := Claim7.holds Tryd.pinned (.plain (OpenSpec.ofChange fnExactEitherRelationSpec)) fnExactEitherRelationCard

/-- THE TIED CARD OF 'laws.FnExactWithoutRelation'. -/
def fnExactWithoutRelationCard : Claim7 := { stood := { row := fnExactWithoutRelationRow, standIns := [], harness := (true, "4f0445d0f4ee1e5391f21bb4e2ff69a717dc836c8e9347e41e77015a9cbd7112"), looks := false }, kinds := [], alts := [], laidByText := true, laidKinds := [.data, .data, .data], laidTests := true, laidLooks := .later }
def FnExactWithoutRelationCardSaid : Prop := Claim7.holds Tryd.pinned (.plain (OpenSpec.ofChange fnExactWithoutRelationSpec)) fnExactWithoutRelationCard

/-- THE TIED CARD OF 'laws.FnExactMoveTapes'. -/
def fnExactMoveTapesCard : Claim7 := { stood := { row := fnExactMoveTapesRow, standIns := [], harness := (true, "4f0445d0f4ee1e5391f21bb4e2ff69a717dc836c8e9347e41e77015a9cbd7112"), looks := false }, kinds := [], alts := [], laidByText := true, laidKinds := [.data, .data, .data], laidTests := true, laidLooks := .later }
def FnExactMoveTapesCardSaid : Prop := Claim7.holds Tryd.pinned (.plain (OpenSpec.ofChange fnExactMoveTapesSpec)) fnExactMoveTapesCard

/-- THE TIED CARD OF 'laws.FnExactInverseRelation'. -/
def fnExactInverseRelationCard : Claim7 := { stood := { row := fnExactInverseRelationRow, standIns := [], harness := (true, "4f0445d0f4ee1e5391f21bb4e2ff69a717dc836c8e9347e41e77015a9cbd7112"), looks := false }, kinds := [], alts := [], laidByText := true, laidKinds := [.data, .data, .data], laidTests := true, laidLooks := .later }
def FnExactInverseRelationCardSaid : Prop := Claim7.holds Tryd.pinned (.plain (OpenSpec.ofChange fnExactInverseRelationSpec)) fnExactInverseRelationCard

/-- THE TIED CARD OF 'laws.FnExactIsContained'. -/
def fnExactIsContainedCard : Claim7 := { stood := { row := fnExactIsContainedRow, standIns := [], harness := (true, "4f0445d0f4ee1e5391f21bb4e2ff69a717dc836c8e9347e41e77015a9cbd7112"), looks := false }, kinds := [], alts := [], laidByText := true, laidKinds := [.data, .data, .data], laidTests := true, laidLooks := .later }
def FnExactIsContainedCardSaid : Prop := Claim7.holds Tryd.pinned (.plain (OpenSpec.ofChange fnExactIsContainedSpec)) fnExactIsContainedCard

/-- THE TIED CARD OF 'laws.FnExactFirstTuple'. -/
def fnExactFirstTupleCard : Claim7 := { stood := { row := fnExactFirstTupleRow, standIns := [], harness := (true, "4f0445d0f4ee1e5391f21bb4e2ff69a717dc836c8e9347e41e77015a9cbd7112"), looks := false }, kinds := [], alts := [], laidByText := true, laidKinds := [.data, .data, .data], laidTests := true, laidLooks := .later }
def FnExactFirstTupleCardSaid : Prop := Claim7.holds Tryd.pinned (.plain (OpenSpec.ofChange fnExactFirstTupleSpec)) fnExactFirstTupleCard

/-- THE TIED CARD OF 'laws.FnExactFirstUnlike'. -/
def fnExactFirstUnlikeCard : Claim7 := { stood := { row := fnExactFirstUnlikeRow, standIns := [], harness := (true, "4f0445d0f4ee1e5391f21bb4e2ff69a717dc836c8e9347e41e77015a9cbd7112"), looks := false }, kinds := [], alts := [], laidByText := true, laidKinds := [.data, .data, .data], laidTests := true, laidLooks := .later }
def FnExactFirstUnlikeCardSaid : Prop := Claim7.holds Tryd.pinned (.plain (OpenSpec.ofChange fnExactFirstUnlikeSpec)) fnExactFirstUnlikeCard

/-- THE SECOND FORM's CARD OF 'laws.FnExactAreEqual'. -/
def fnExactAreEqualUptoCard : Claim7 := { stood := { row := fnExactAreEqualUptoRow, standIns := [], harness := (true, "4f0445d0f4ee1e5391f21bb4e2ff69a717dc836c8e9347e41e77015a9cbd7112"), looks := false }, kinds := [], alts := [], laidByText := true, laidKinds := [.data, .data, .data], laidTests := true, laidLooks := .later }
def FnExactAreEqualUptoCardSaid : Prop := Claim7.holds Tryd.pinned (.plain (OpenSpec.upto fnExactAreEqualSpec)) fnExactAreEqualUptoCard

/-- THE SECOND FORM's CARD OF 'laws.FnExactOppositeRelation'. -/
def fnExactOppositeRelationUptoCard : Claim7 := { stood := { row := fnExactOppositeRelationUptoRow, standIns := [], harness := (true, "4f0445d0f4ee1e5391f21bb4e2ff69a717dc836c8e9347e41e77015a9cbd7112"), looks := false }, kinds := [], alts := [], laidByText := true, laidKinds := [.data, .data, .data], laidTests := true, laidLooks := .later }
def FnExactOppositeRelationUptoCardSaid : Prop := Claim7.holds Tryd.pinned (.plain (OpenSpec.upto fnExactOppositeRelationSpec)) fnExactOppositeRelationUptoCard

/-- THE SECOND FORM's CARD OF 'laws.FnExactSameOn'. -/
def fnExactSameOnUptoCard : Claim7 := { stood := { row := fnExactSameOnUptoRow, standIns := [], harness := (true, "4f0445d0f4ee1e5391f21bb4e2ff69a717dc836c8e9347e41e77015a9cbd7112"), looks := false }, kinds := [], alts := [], laidByText := true, laidKinds := [.data, .data, .data], laidTests := true, laidLooks := .later }
def FnExactSameOnUptoCardSaid : Prop := Claim7.holds Tryd.pinned (.plain (OpenSpec.upto fnExactSameOnSpec)) fnExactSameOnUptoCard

/-- THE SECOND FORM's CARD OF 'laws.FnExactAddTape'. -/
def fnExactAddTapeUptoCard : Claim7 := { stood := { row := fnExactAddTapeUptoRow, standIns := [], harness := (true, "4f0445d0f4ee1e5391f21bb4e2ff69a717dc836c8e9347e41e77015a9cbd7112"), looks := false }, kinds := [], alts := [], laidByText := true, laidKinds := [.data, .data, .data], laidTests := true, laidLooks := .later }
def FnExactAddTapeUptoCardSaid : Prop := Claim7.holds Tryd.pinned (.plain (OpenSpec.upto fnExactAddTapeSpec)) fnExactAddTapeUptoCard

/-- THE SECOND FORM's CARD OF 'laws.FnExactBothRelations'. -/
def fnExactBothRelationsUptoCard : Claim7 := { stood := { row := fnExactBothRelationsUptoRow, standIns := [], harness := (true, "4f0445d0f4ee1e5391f21bb4e2ff69a717dc836c8e9347e41e77015a9cbd7112"), looks := false }, kinds := [], alts := [], laidByText := true, laidKinds := [.data, .data, .data], laidTests := true, laidLooks := .later }
def FnExactBothRelationsUptoCardSaid : Prop := Claim7.holds Tryd.pinned (.plain (OpenSpec.upto fnExactBothRelationsSpec)) fnExactBothRelationsUptoCard

/-- THE SECOND FORM's CARD OF 'laws.FnExactEitherRelation'. -/
def fnExactEitherRelationUptoCard : Claim7 := { stood := { row := fnExactEitherRelationUptoRow, standIns := [], harness := (true, "4f0445d0f4ee1e5391f21bb4e2ff69a717dc836c8e9347e41e77015a9cbd7112"), looks := false }, kinds := [], alts := [], laidByText := true, laidKinds := [.data, .data, .data], laidTests := true, laidLooks := .later }
def FnExactEitherRelationUptoCardSaid : Prop := Claim7.holds Tryd.pinned (.plain (OpenSpec.upto fnExactEitherRelationSpec)) fnExactEitherRelationUptoCard

/-- THE SECOND FORM's CARD OF 'laws.FnExactWithoutRelation'. -/
def fnExactWithoutRelationUptoCard : Claim7 := { stood := { row := fnExactWithoutRelationUptoRow, standIns := [], harness := (true, "4f0445d0f4ee1e5391f21bb4e2ff69a717dc836c8e9347e41e77015a9cbd7112"), looks := false }, kinds := [], alts := [], laidByText := true, laidKinds := [.data, .data, .data], laidTests := true, laidLooks := .later }
def FnExactWithoutRelationUptoCardSaid : Prop := Claim7.holds Tryd.pinned (.plain (OpenSpec.upto fnExactWithoutRelationSpec)) fnExactWithoutRelationUptoCard

/-- THE SECOND FORM's CARD OF 'laws.FnExactMoveTapes'. -/
def fnExactMoveTapesUptoCard : Claim7 := { stood := { row := fnExactMoveTapesUptoRow, standIns := [], harness := (true, "4f0445d0f4ee1e5391f21bb4e2ff69a717dc836c8e9347e41e77015a9cbd7112"), looks := false }, kinds := [], alts := [], laidByText := true, laidKinds := [.data, .data, .data], laidTests := true, laidLooks := .later }
def FnExactMoveTapesUptoCardSaid : Prop := Claim7.holds Tryd.pinned (.plain (OpenSpec.upto fnExactMoveTapesSpec)) fnExactMoveTapesUptoCard

/-- THE SECOND FORM's CARD OF 'laws.FnExactInverseRelation'. -/
def fnExactInverseRelationUptoCard : Claim7 := { stood := { row := fnExactInverseRelationUptoRow, standIns := [], harness := (true, "4f0445d0f4ee1e5391f21bb4e2ff69a717dc836c8e9347e41e77015a9cbd7112"), looks := false }, kinds := [], alts := [], laidByText := true, laidKinds := [.data, .data, .data], laidTests := true, laidLooks := .later }
def FnExactInverseRelationUptoCardSaid : Prop := Claim7.holds Tryd.pinned (.plain (OpenSpec.upto fnExactInverseRelationSpec)) fnExactInverseRelationUptoCard

/-- THE SECOND FORM's CARD OF 'laws.FnExactIsContained'. -/
def fnExactIsContainedUptoCard : Claim7 := { stood := { row := fnExactIsContainedUptoRow, standIns := [], harness := (true, "4f0445d0f4ee1e5391f21bb4e2ff69a717dc836c8e9347e41e77015a9cbd7112"), looks := false }, kinds := [], alts := [], laidByText := true, laidKinds := [.data, .data, .data], laidTests := true, laidLooks := .later }
def FnExactIsContainedUptoCardSaid : Prop := Claim7.holds Tryd.pinned (.plain (OpenSpec.upto fnExactIsContainedSpec)) fnExactIsContainedUptoCard

/-- THE SECOND FORM's CARD OF 'laws.FnExactFirstTuple'. -/
def fnExactFirstTupleUptoCard : Claim7 := { stood := { row := fnExactFirstTupleUptoRow, standIns := [], harness := (true, "4f0445d0f4ee1e5391f21bb4e2ff69a717dc836c8e9347e41e77015a9cbd7112"), looks := false }, kinds := [], alts := [], laidByText := true, laidKinds := [.data, .data, .data], laidTests := true, laidLooks := .later }
def FnExactFirstTupleUptoCardSaid : Prop := Claim7.holds Tryd.pinned (.plain (OpenSpec.upto fnExactFirstTupleSpec)) fnExactFirstTupleUptoCard

/-- THE SECOND FORM's CARD OF 'laws.FnExactFirstUnlike'. -/
def fnExactFirstUnlikeUptoCard : Claim7 := { stood := { row := fnExactFirstUnlikeUptoRow, standIns := [], harness := (true, "4f0445d0f4ee1e5391f21bb4e2ff69a717dc836c8e9347e41e77015a9cbd7112"), looks := false }, kinds := [], alts := [], laidByText := true, laidKinds := [.data, .data, .data], laidTests := true, laidLooks := .later }
def FnExactFirstUnlikeUptoCardSaid : Prop := Claim7.holds Tryd.pinned (.plain (OpenSpec.upto fnExactFirstUnlikeSpec)) fnExactFirstUnlikeUptoCard
end Rows
end Go.Proofs.YtocfcpicleomcaaDoor
