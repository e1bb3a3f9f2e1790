/-
  DERIVED. GIVEN WITH THE SEED: THE CARDS: each row of YtelicdmaohllgaaDoorRows.lean that lists a variable, with what it lists TIED to the program's text (the seventh form; the later family's looks); each row that meets fmt, with fmt's text TOLD by the authors' own Lean function (tested against real Go, not proved from fmt's source: count such statements apart). THE CARD IS WHAT COUNTS. Prove the row's statement (the work); the ties are given (YtelicdmaohllgaaDoorTie.lean); close each card by the builder's one call (the guide's Derived/Test/ToyasCard.lean, 'card_holds'). Laid BY PROGRAM, IN A SANDBOX (cutbox-door.mjs). By AI agents, Wed Nov 11 2026. No macro, syntax, notation, axiom, sorry.
-/
import Derived.Test.YtelicdmaohllgaaDoorRows
import GoSem.ClaimSeven
namespace Go.Proofs.YtelicdmaohllgaaDoor
namespace Rows

/-- THE TIED CARD OF 'laws.FnExactValidWord'. -/
def fnExactValidWordCard : Claim7 := { stood := { row := fnExactValidWordRow, standIns := [], harness := (true, "0c7ba4238cc5b18ce93ff7ca11a5332e08856aff23ce2f214aee8337654ec517"), looks := true }, kinds := [], alts := [], laidByText := true, laidKinds := [.data, .pinned], laidTests := true, laidLooks := .later }
def FnExactValidWordCardSaid : Prop := Claim7.holds Tryd.pinned (.plain (OpenSpec.ofChange fnExactValidWordSpec)) fnExactValidWordCard

/-- THE TIED CARD OF 'laws.FnExactColumnsOf'. -/
def fnExactColumnsOfCard : Claim7 := { stood := { row := fnExactColumnsOfRow, standIns := [], harness := (true, "0c7ba4238cc5b18ce93ff7ca11a5332e08856aff23ce2f214aee8337654ec517"), looks := true }, kinds := [], alts := [], laidByText := true, laidKinds := [.data, .pinned], laidTests := true, laidLooks := .later }
def FnExactColumnsOfCardSaid : Prop := Claim7.holds Tryd.pinned (.plain (OpenSpec.ofChange fnExactColumnsOfSpec)) fnExactColumnsOfCard

/-- THE TIED CARD OF 'laws.FnExactRelationOf'. -/
def fnExactRelationOfCard : Claim7 := { stood := { row := fnExactRelationOfRow, standIns := [], harness := (true, "0c7ba4238cc5b18ce93ff7ca11a5332e08856aff23ce2f214aee8337654ec517"), looks := true }, kinds := [], alts := [], laidByText := true, laidKinds := [.data, .data, .data, .data, .pinned], laidTests := true, laidLooks := .later }
def FnExactRelationOfCardSaid : Prop := Claim7.holds Tryd.pinned (.plain (OpenSpec.ofChange fnExactRelationOfSpec)) fnExactRelationOfCard

/-- THE TIED CARD OF 'laws.FnExactRelationText'. -/
def fnExactRelationTextCard : Claim7 := { stood := { row := fnExactRelationTextRow, standIns := [], harness := (true, "0c7ba4238cc5b18ce93ff7ca11a5332e08856aff23ce2f214aee8337654ec517"), looks := true }, kinds := [], alts := [], laidByText := true, laidKinds := [.data, .data, .data], laidTests := true, laidLooks := .later }
def FnExactRelationTextCardSaid : Prop := Claim7.holds Tryd.pinned (.plain (OpenSpec.ofChange fnExactRelationTextSpec)) fnExactRelationTextCard

/-- THE TIED CARD OF 'laws.FnExactCountTuples'. -/
def fnExactCountTuplesCard : Claim7 := { stood := { row := fnExactCountTuplesRow, standIns := [], harness := (true, "0c7ba4238cc5b18ce93ff7ca11a5332e08856aff23ce2f214aee8337654ec517"), looks := true }, kinds := [], alts := [], laidByText := true, laidKinds := [.data, .data, .data], laidTests := true, laidLooks := .later }
def FnExactCountTuplesCardSaid : Prop := Claim7.holds Tryd.pinned (.plain (OpenSpec.ofChange fnExactCountTuplesSpec)) fnExactCountTuplesCard

/-- THE TIED CARD OF 'laws.FnExactIsFinite'. -/
def fnExactIsFiniteCard : Claim7 := { stood := { row := fnExactIsFiniteRow, standIns := [], harness := (true, "0c7ba4238cc5b18ce93ff7ca11a5332e08856aff23ce2f214aee8337654ec517"), looks := true }, kinds := [], alts := [], laidByText := true, laidKinds := [.data, .data, .data], laidTests := true, laidLooks := .later }
def FnExactIsFiniteCardSaid : Prop := Claim7.holds Tryd.pinned (.plain (OpenSpec.ofChange fnExactIsFiniteSpec)) fnExactIsFiniteCard

/-- THE TIED CARD OF 'laws.FnExactTuplesUpTo'. -/
def fnExactTuplesUpToCard : Claim7 := { stood := { row := fnExactTuplesUpToRow, standIns := [], harness := (true, "0c7ba4238cc5b18ce93ff7ca11a5332e08856aff23ce2f214aee8337654ec517"), looks := true }, kinds := [], alts := [], laidByText := true, laidKinds := [.data, .data, .data], laidTests := true, laidLooks := .later }
def FnExactTuplesUpToCardSaid : Prop := Claim7.holds Tryd.pinned (.plain (OpenSpec.ofChange fnExactTuplesUpToSpec)) fnExactTuplesUpToCard

/-- THE TIED CARD OF 'laws.FnExactCountAll'. -/
def fnExactCountAllCard : Claim7 := { stood := { row := fnExactCountAllRow, standIns := [], harness := (true, "0c7ba4238cc5b18ce93ff7ca11a5332e08856aff23ce2f214aee8337654ec517"), looks := true }, kinds := [], alts := [], laidByText := true, laidKinds := [.data, .data, .data], laidTests := true, laidLooks := .later }
def FnExactCountAllCardSaid : Prop := Claim7.holds Tryd.pinned (.plain (OpenSpec.ofChange fnExactCountAllSpec)) fnExactCountAllCard

/-- THE TIED CARD OF 'laws.FnExactSomeOn'. -/
def fnExactSomeOnCard : Claim7 := { stood := { row := fnExactSomeOnRow, standIns := [], harness := (true, "0c7ba4238cc5b18ce93ff7ca11a5332e08856aff23ce2f214aee8337654ec517"), looks := true }, kinds := [], alts := [], laidByText := true, laidKinds := [.data, .data, .data], laidTests := true, laidLooks := .later }
def FnExactSomeOnCardSaid : Prop := Claim7.holds Tryd.pinned (.plain (OpenSpec.ofChange fnExactSomeOnSpec)) fnExactSomeOnCard

/-- THE TIED CARD OF 'laws.FnExactReadRelation'. -/
def fnExactReadRelationCard : Claim7 := { stood := { row := fnExactReadRelationRow, standIns := [], harness := (true, "0c7ba4238cc5b18ce93ff7ca11a5332e08856aff23ce2f214aee8337654ec517"), looks := true }, kinds := [], alts := [], laidByText := true, laidKinds := [.data, .data, .data, .data, .sentinel, .sentinel, .pinned], laidTests := true, laidLooks := .later }
def FnExactReadRelationCardSaid : Prop := Claim7.holds Tryd.pinned (.plain (OpenSpec.ofChange fnExactReadRelationSpec)) fnExactReadRelationCard

/-- THE TIED CARD OF 'laws.FnExactFreeVariables'. -/
def fnExactFreeVariablesCard : Claim7 := { stood := { row := fnExactFreeVariablesRow, standIns := [], harness := (true, "0c7ba4238cc5b18ce93ff7ca11a5332e08856aff23ce2f214aee8337654ec517"), looks := true }, kinds := [], alts := [], laidByText := true, laidKinds := [.data, .pinned], laidTests := true, laidLooks := .later }
def FnExactFreeVariablesCardSaid : Prop := Claim7.holds Tryd.pinned (.plain (OpenSpec.ofChange fnExactFreeVariablesSpec)) fnExactFreeVariablesCard

/-- THE SECOND FORM's CARD OF 'laws.FnExactValidWord'. -/
def fnExactValidWordUptoCard : Claim7 := { stood := { row := fnExactValidWordUptoRow, standIns := [], harness := (true, "0c7ba4238cc5b18ce93ff7ca11a5332e08856aff23ce2f214aee8337654ec517"), looks := true }, kinds := [], alts := [], laidByText := true, laidKinds := [.data, .pinned], laidTests := true, laidLooks := .later }
def FnExactValidWordUptoCardSaid : Prop := Claim7.holds Tryd.pinned (.plain (OpenSpec.upto fnExactValidWordSpec)) fnExactValidWordUptoCard

/-- THE SECOND FORM's CARD OF 'laws.FnExactColumnsOf'. -/
def fnExactColumnsOfUptoCard : Claim7 := { stood := { row := fnExactColumnsOfUptoRow, standIns := [], harness := (true, "0c7ba4238cc5b18ce93ff7ca11a5332e08856aff23ce2f214aee8337654ec517"), looks := true }, kinds := [], alts := [], laidByText := true, laidKinds := [.data, .pinned], laidTests := true, laidLooks := .later }
def FnExactColumnsOfUptoCardSaid : Prop := Claim7.holds Tryd.pinned (.plain (OpenSpec.upto fnExactColumnsOfSpec)) fnExactColumnsOfUptoCard

/-- THE SECOND FORM's CARD OF 'laws.FnExactRelationOf'. -/
def fnExactRelationOfUptoCard : Claim7 := { stood := { row := fnExactRelationOfUptoRow, standIns := [], harness := (true, "0c7ba4238cc5b18ce93ff7ca11a5332e08856aff23ce2f214aee8337654ec517"), looks := true }, kinds := [], alts := [], laidByText := true, laidKinds := [.data, .data, .data, .data, .pinned], laidTests := true, laidLooks := .later }
def FnExactRelationOfUptoCardSaid : Prop := Claim7.holds Tryd.pinned (.plain (OpenSpec.upto fnExactRelationOfSpec)) fnExactRelationOfUptoCard

/-- THE SECOND FORM's CARD OF 'laws.FnExactRelationText'. -/
def fnExactRelationTextUptoCard : Claim7 := { stood := { row := fnExactRelationTextUptoRow, standIns := [], harness := (true, "0c7ba4238cc5b18ce93ff7ca11a5332e08856aff23ce2f214aee8337654ec517"), looks := true }, kinds := [], alts := [], laidByText := true, laidKinds := [.data, .data, .data], laidTests := true, laidLooks := .later }
def FnExactRelationTextUptoCardSaid : Prop := Claim7.holds Tryd.pinned (.plain (OpenSpec.upto fnExactRelationTextSpec)) fnExactRelationTextUptoCard

/-- THE SECOND FORM's CARD OF 'laws.FnExactCountTuples'. -/
def fnExactCountTuplesUptoCard : Claim7 := { stood := { row := fnExactCountTuplesUptoRow, standIns := [], harness := (true, "0c7ba4238cc5b18ce93ff7ca11a5332e08856aff23ce2f214aee8337654ec517"), looks := true }, kinds := [], alts := [], laidByText := true, laidKinds := [.data, .data, .data], laidTests := true, laidLooks := .later }
def FnExactCountTuplesUptoCardSaid : Prop := Claim7.holds Tryd.pinned (.plain (OpenSpec.upto fnExactCountTuplesSpec)) fnExactCountTuplesUptoCard

/-- THE SECOND FORM's CARD OF 'laws.FnExactIsFinite'. -/
def fnExactIsFiniteUptoCard : Claim7 := { stood := { row := fnExactIsFiniteUptoRow, standIns := [], harness := (true, "0c7ba4238cc5b18ce93ff7ca11a5332e08856aff23ce2f214aee8337654ec517"), looks := true }, kinds := [], alts := [], laidByText := true, laidKinds := [.data, .data, .data], laidTests := true, laidLooks := .later }
def FnExactIsFiniteUptoCardSaid : Prop := Claim7.holds Tryd.pinned (.plain (OpenSpec.upto fnExactIsFiniteSpec)) fnExactIsFiniteUptoCard

/-- THE SECOND FORM's CARD OF 'laws.FnExactTuplesUpTo'. -/
def fnExactTuplesUpToUptoCard : Claim7 := { stood := { row := fnExactTuplesUpToUptoRow, standIns := [], harness := (true, "0c7ba4238cc5b18ce93ff7ca11a5332e08856aff23ce2f214aee8337654ec517"), looks := true }, kinds := [], alts := [], laidByText := true, laidKinds := [.data, .data, .data], laidTests := true, laidLooks := .later }
def FnExactTuplesUpToUptoCardSaid : Prop := Claim7.holds Tryd.pinned (.plain (OpenSpec.upto fnExactTuplesUpToSpec)) fnExactTuplesUpToUptoCard

/-- THE SECOND FORM's CARD OF 'laws.FnExactCountAll'. -/
def fnExactCountAllUptoCard : Claim7 := { stood := { row := fnExactCountAllUptoRow, standIns := [], harness := (true, "0c7ba4238cc5b18ce93ff7ca11a5332e08856aff23ce2f214aee8337654ec517"), looks := true }, kinds := [], alts := [], laidByText := true, laidKinds := [.data, .data, .data], laidTests := true, laidLooks := .later }
def FnExactCountAllUptoCardSaid : Prop := Claim7.holds Tryd.pinned (.plain (OpenSpec.upto fnExactCountAllSpec)) fnExactCountAllUptoCard

/-- THE SECOND FORM's CARD OF 'laws.FnExactSomeOn'. -/
def fnExactSomeOnUptoCard : Claim7 := { stood := { row := fnExactSomeOnUptoRow, standIns := [], harness := (true, "0c7ba4238cc5b18ce93ff7ca11a5332e08856aff23ce2f214aee8337654ec517"), looks := true }, kinds := [], alts := [], laidByText := true, laidKinds := [.data, .data, .data], laidTests := true, laidLooks := .later }
def FnExactSomeOnUptoCardSaid : Prop := Claim7.holds Tryd.pinned (.plain (OpenSpec.upto fnExactSomeOnSpec)) fnExactSomeOnUptoCard

/-- THE SECOND FORM's CARD OF 'laws.FnExactReadRelation'. -/
def fnExactReadRelationUptoCard : Claim7 := { stood := { row := fnExactReadRelationUptoRow, standIns := [], harness := (true, "0c7ba4238cc5b18ce93ff7ca11a5332e08856aff23ce2f214aee8337654ec517"), looks := true }, kinds := [], alts := [], laidByText := true, laidKinds := [.data, .data, .data, .data, .sentinel, .sentinel, .pinned], laidTests := true, laidLooks := .later }
def FnExactReadRelationUptoCardSaid : Prop := Claim7.holds Tryd.pinned (.plain (OpenSpec.upto fnExactReadRelationSpec)) fnExactReadRelationUptoCard

/-- THE SECOND FORM's CARD OF 'laws.FnExactFreeVariables'. -/
def fnExactFreeVariablesUptoCard : Claim7 := { stood := { row := fnExactFreeVariablesUptoRow, standIns := [], harness := (true, "0c7ba4238cc5b18ce93ff7ca11a5332e08856aff23ce2f214aee8337654ec517"), looks := true }, kinds := [], alts := [], laidByText := true, laidKinds := [.data, .pinned], laidTests := true, laidLooks := .later }
def FnExactFreeVariablesUptoCardSaid : Prop := Claim7.holds Tryd.pinned (.plain (OpenSpec.upto fnExactFreeVariablesSpec)) fnExactFreeVariablesUptoCard
end Rows
end Go.Proofs.YtelicdmaohllgaaDoor
