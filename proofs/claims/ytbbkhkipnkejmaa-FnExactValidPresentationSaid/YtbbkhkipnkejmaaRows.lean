/-
  No cell of these rows narrows 'for every input' (looked for: loops, veiled, ifaces, maps, wideKeys, modest, calm, conditions, laid).
  DERIVED. THE GIVEN ROWS OF THIS SEAT. 10 by the template 'for every input the law returns true; each argument reads behind the call as it read before'; 0 by the template 'total and deterministic' (their statements: YtbbkhkipnkejmaaTotals.lean).
  GIVEN WITH THE SEED: the statements are not yours to turn. If you find one false, say at which input.
  Laid BY PROGRAM, IN A SANDBOX (cutbox-rows.mjs): the forced cells as the released guide's own fill.sh prints them over the translation 374a6dc7a79f6507… (all of the seat's roots in one cut). By AI agents, Wed Nov 11 2026. No macro, syntax, notation, axiom, sorry.
-/
import Derived.Test.YtbbkhkipnkejmaaChecked
import GoSem.Claim
import GoSem.ClaimJoined
import GoSem.ClaimMapViews
import Derived.JoinedTies
import Derived.KernelRfl
namespace Go.Proofs.Ytbbkhkipnkejmaa
/- THE CELL 'sum', in the pinned program and in every row, IS THE sha256 OF THE DUMP (.gsa) THAT YtbbkhkipnkejmaaProg.lean LOADS. Nothing in Lean hashes anything: it is a label: what it is worth is what the hold of that sum in a sandbox is worth. -/
noncomputable def Try.pinned : Pinned := { name := "ytbbkhkipnkejmaa", sum := "374a6dc7a79f6507d24b31d8dd1261577a97bba26131f2e5c35407f47e97041c", checked := Try.checked }
namespace Rows
def none {H : Type} : Left H := { results := [], args := [] }

/-- 'laws.FnExactConstants': WHATEVER THE INPUT: true; the input reads as it did. -/
def fnExactConstantsSpec : ChangeSpec := { name := "fnExactConstants", fn := fun _ => fun
  | [] => { results := [.lit (.bool true)], args := [] }
  | _ => none }
def fnExactConstantsRow : OpenClaim := { program := "ytbbkhkipnkejmaa", sum := "374a6dc7a79f6507d24b31d8dd1261577a97bba26131f2e5c35407f47e97041c", func := "loop.example/g01168/laws.FnExactConstants", spec := "fnExactConstants", apart := false }
def FnExactConstantsSaid : Prop := fnExactConstantsRow.holds Try.pinned (OpenSpec.ofChange fnExactConstantsSpec)

/-- ITS FALSE NEIGHBOUR: 'it returns false'. Refute it at one input. -/
def fnExactConstantsWrong : ChangeSpec := { name := "fnExactConstants", fn := fun _ => fun
  | [] => { results := [.lit (.bool false)], args := [] }
  | _ => none }
def FnExactConstantsWrongFalsely : Prop := fnExactConstantsRow.holds Try.pinned (OpenSpec.ofChange fnExactConstantsWrong)

/-- 'laws.FnExactCodeName': WHATEVER THE INPUT: true; the input reads as it did. -/
def fnExactCodeNameSpec : ChangeSpec := { name := "fnExactCodeName", fn := fun _ => fun
  | [d] => { results := [.lit (.bool true)], args := [d] }
  | _ => none }
def fnExactCodeNameRow : OpenClaim := { program := "ytbbkhkipnkejmaa", sum := "374a6dc7a79f6507d24b31d8dd1261577a97bba26131f2e5c35407f47e97041c", func := "loop.example/g01168/laws.FnExactCodeName", spec := "fnExactCodeName", apart := false }
def FnExactCodeNameSaid : Prop := fnExactCodeNameRow.holds Try.pinned (OpenSpec.ofChange fnExactCodeNameSpec)

/-- ITS FALSE NEIGHBOUR: 'it returns false'. Refute it at one input. -/
def fnExactCodeNameWrong : ChangeSpec := { name := "fnExactCodeName", fn := fun _ => fun
  | [d] => { results := [.lit (.bool false)], args := [d] }
  | _ => none }
def FnExactCodeNameWrongFalsely : Prop := fnExactCodeNameRow.holds Try.pinned (OpenSpec.ofChange fnExactCodeNameWrong)

/-- 'laws.FnExactColumnText': WHATEVER THE INPUT: true; the input reads as it did. -/
def fnExactColumnTextSpec : ChangeSpec := { name := "fnExactColumnText", fn := fun _ => fun
  | [d1, d2] => { results := [.lit (.bool true)], args := [d1, d2] }
  | _ => none }
def fnExactColumnTextRow : OpenClaim := { program := "ytbbkhkipnkejmaa", sum := "374a6dc7a79f6507d24b31d8dd1261577a97bba26131f2e5c35407f47e97041c", func := "loop.example/g01168/laws.FnExactColumnText", spec := "fnExactColumnText", apart := false }
def FnExactColumnTextSaid : Prop := fnExactColumnTextRow.holds Try.pinned (OpenSpec.ofChange fnExactColumnTextSpec)

/-- ITS FALSE NEIGHBOUR: 'it returns false'. Refute it at one input. -/
def fnExactColumnTextWrong : ChangeSpec := { name := "fnExactColumnText", fn := fun _ => fun
  | [d1, d2] => { results := [.lit (.bool false)], args := [d1, d2] }
  | _ => none }
def FnExactColumnTextWrongFalsely : Prop := fnExactColumnTextRow.holds Try.pinned (OpenSpec.ofChange fnExactColumnTextWrong)

/-- 'laws.FnExactWordsOf': WHATEVER THE INPUT: true; the input reads as it did. -/
def fnExactWordsOfSpec : ChangeSpec := { name := "fnExactWordsOf", fn := fun _ => fun
  | [d1, d2] => { results := [.lit (.bool true)], args := [d1, d2] }
  | _ => none }
def fnExactWordsOfRow : OpenClaim := { program := "ytbbkhkipnkejmaa", sum := "374a6dc7a79f6507d24b31d8dd1261577a97bba26131f2e5c35407f47e97041c", func := "loop.example/g01168/laws.FnExactWordsOf", spec := "fnExactWordsOf", apart := false }
def FnExactWordsOfSaid : Prop := fnExactWordsOfRow.holds Try.pinned (OpenSpec.ofChange fnExactWordsOfSpec)

/-- ITS FALSE NEIGHBOUR: 'it returns false'. Refute it at one input. -/
def fnExactWordsOfWrong : ChangeSpec := { name := "fnExactWordsOf", fn := fun _ => fun
  | [d1, d2] => { results := [.lit (.bool false)], args := [d1, d2] }
  | _ => none }
def FnExactWordsOfWrongFalsely : Prop := fnExactWordsOfRow.holds Try.pinned (OpenSpec.ofChange fnExactWordsOfWrong)

/-- 'laws.FnExactValidRelation': WHATEVER THE INPUT: true; the input reads as it did. -/
def fnExactValidRelationSpec : ChangeSpec := { name := "fnExactValidRelation", fn := fun _ => fun
  | [d] => { results := [.lit (.bool true)], args := [d] }
  | _ => none }
def fnExactValidRelationRow : OpenClaim := { program := "ytbbkhkipnkejmaa", sum := "374a6dc7a79f6507d24b31d8dd1261577a97bba26131f2e5c35407f47e97041c", func := "loop.example/g01168/laws.FnExactValidRelation", spec := "fnExactValidRelation", apart := false }
def FnExactValidRelationSaid : Prop := fnExactValidRelationRow.holds Try.pinned (OpenSpec.ofChange fnExactValidRelationSpec)

/-- ITS FALSE NEIGHBOUR: 'it returns false'. Refute it at one input. -/
def fnExactValidRelationWrong : ChangeSpec := { name := "fnExactValidRelation", fn := fun _ => fun
  | [d] => { results := [.lit (.bool false)], args := [d] }
  | _ => none }
def FnExactValidRelationWrongFalsely : Prop := fnExactValidRelationRow.holds Try.pinned (OpenSpec.ofChange fnExactValidRelationWrong)

/-- 'laws.FnExactSameRelation': WHATEVER THE INPUT: true; the input reads as it did. -/
def fnExactSameRelationSpec : ChangeSpec := { name := "fnExactSameRelation", fn := fun _ => fun
  | [d1, d2] => { results := [.lit (.bool true)], args := [d1, d2] }
  | _ => none }
def fnExactSameRelationRow : OpenClaim := { program := "ytbbkhkipnkejmaa", sum := "374a6dc7a79f6507d24b31d8dd1261577a97bba26131f2e5c35407f47e97041c", func := "loop.example/g01168/laws.FnExactSameRelation", spec := "fnExactSameRelation", unfollowed := true, recurses := true, apart := false }
def FnExactSameRelationSaid : Prop := fnExactSameRelationRow.holds Try.pinned (OpenSpec.ofChange fnExactSameRelationSpec)

/-- ITS FALSE NEIGHBOUR: 'it returns false'. Refute it at one input. -/
def fnExactSameRelationWrong : ChangeSpec := { name := "fnExactSameRelation", fn := fun _ => fun
  | [d1, d2] => { results := [.lit (.bool false)], args := [d1, d2] }
  | _ => none }
def FnExactSameRelationWrongFalsely : Prop := fnExactSameRelationRow.holds Try.pinned (OpenSpec.ofChange fnExactSameRelationWrong)

/-- 'laws.FnExactNestingOf': WHATEVER THE INPUT: true; the input reads as it did. -/
def fnExactNestingOfSpec : ChangeSpec := { name := "fnExactNestingOf", fn := fun _ => fun
  | [d] => { results := [.lit (.bool true)], args := [d] }
  | _ => none }
def fnExactNestingOfRow : OpenClaim := { program := "ytbbkhkipnkejmaa", sum := "374a6dc7a79f6507d24b31d8dd1261577a97bba26131f2e5c35407f47e97041c", func := "loop.example/g01168/laws.FnExactNestingOf", spec := "fnExactNestingOf", recurses := true, apart := false }
def FnExactNestingOfSaid : Prop := fnExactNestingOfRow.holds Try.pinned (OpenSpec.ofChange fnExactNestingOfSpec)

/-- ITS FALSE NEIGHBOUR: 'it returns false'. Refute it at one input. -/
def fnExactNestingOfWrong : ChangeSpec := { name := "fnExactNestingOf", fn := fun _ => fun
  | [d] => { results := [.lit (.bool false)], args := [d] }
  | _ => none }
def FnExactNestingOfWrongFalsely : Prop := fnExactNestingOfRow.holds Try.pinned (OpenSpec.ofChange fnExactNestingOfWrong)

/-- 'laws.FnExactSamePresentation': WHATEVER THE INPUT: true; the input reads as it did. -/
def fnExactSamePresentationSpec : ChangeSpec := { name := "fnExactSamePresentation", fn := fun _ => fun
  | [d1, d2] => { results := [.lit (.bool true)], args := [d1, d2] }
  | _ => none }
def fnExactSamePresentationRow : OpenClaim := { program := "ytbbkhkipnkejmaa", sum := "374a6dc7a79f6507d24b31d8dd1261577a97bba26131f2e5c35407f47e97041c", func := "loop.example/g01168/laws.FnExactSamePresentation", spec := "fnExactSamePresentation", unfollowed := true, recurses := true, apart := false }
def FnExactSamePresentationSaid : Prop := fnExactSamePresentationRow.holds Try.pinned (OpenSpec.ofChange fnExactSamePresentationSpec)

/-- ITS FALSE NEIGHBOUR: 'it returns false'. Refute it at one input. -/
def fnExactSamePresentationWrong : ChangeSpec := { name := "fnExactSamePresentation", fn := fun _ => fun
  | [d1, d2] => { results := [.lit (.bool false)], args := [d1, d2] }
  | _ => none }
def FnExactSamePresentationWrongFalsely : Prop := fnExactSamePresentationRow.holds Try.pinned (OpenSpec.ofChange fnExactSamePresentationWrong)

/-- 'laws.FnExactValidPresentation': WHATEVER THE INPUT: true; the input reads as it did. -/
def fnExactValidPresentationSpec : ChangeSpec := { name := "fnExactValidPresentation", fn := fun _ => fun
  | [d] => { results := [.lit (.bool true)], args := [d] }
  | _ => none }
def fnExactValidPresentationRow : OpenClaim := { program := "ytbbkhkipnkejmaa", sum := "374a6dc7a79f6507d24b31d8dd1261577a97bba26131f2e5c35407f47e97041c", func := "loop.example/g01168/laws.FnExactValidPresentation", spec := "fnExactValidPresentation", apart := false }
def FnExactValidPresentationSaid : Prop := fnExactValidPresentationRow.holds Try.pinned (OpenSpec.ofChange fnExactValidPresentationSpec)

/-- ITS FALSE NEIGHBOUR: 'it returns false'. Refute it at one input. -/
def fnExactValidPresentationWrong : ChangeSpec := { name := "fnExactValidPresentation", fn := fun _ => fun
  | [d] => { results := [.lit (.bool false)], args := [d] }
  | _ => none }
def FnExactValidPresentationWrongFalsely : Prop := fnExactValidPresentationRow.holds Try.pinned (OpenSpec.ofChange fnExactValidPresentationWrong)

/-- 'laws.FnExactRenameFormula': WHATEVER THE INPUT: true; the input reads as it did. -/
def fnExactRenameFormulaSpec : ChangeSpec := { name := "fnExactRenameFormula", fn := fun _ => fun
  | [d1, d2] => { results := [.lit (.bool true)], args := [d1, d2] }
  | _ => none }
def fnExactRenameFormulaRow : OpenClaim := { program := "ytbbkhkipnkejmaa", sum := "374a6dc7a79f6507d24b31d8dd1261577a97bba26131f2e5c35407f47e97041c", func := "loop.example/g01168/laws.FnExactRenameFormula", spec := "fnExactRenameFormula", inPlace := ["internal/bytealg.IndexByteString", "internal/bytealg.IndexString"], recurses := true, named := ["internal/bytealg.MaxLen"], apart := false }
def FnExactRenameFormulaSaid : Prop := fnExactRenameFormulaRow.holds Try.pinned (OpenSpec.ofChange fnExactRenameFormulaSpec)

/-- ITS FALSE NEIGHBOUR: 'it returns false'. Refute it at one input. -/
def fnExactRenameFormulaWrong : ChangeSpec := { name := "fnExactRenameFormula", fn := fun _ => fun
  | [d1, d2] => { results := [.lit (.bool false)], args := [d1, d2] }
  | _ => none }
def FnExactRenameFormulaWrongFalsely : Prop := fnExactRenameFormulaRow.holds Try.pinned (OpenSpec.ofChange fnExactRenameFormulaWrong)

/- THE SECOND FORM. 'bulk': how many values and letters a reading holds, each counted each time it is reached (what is shared counts as often as it is met; a slice's spare places count too). A statement '..UptoSaid' is the law's where the arguments, and the package variables that the reading takes, are together of bulk at most 1048576: NARROWER than '..Said'. Prove '..Said' where nothing that the law and all that it calls make is longer than what came in: it says more and counts as full. Else prove '..UptoSaid'. A law counts once. -/
mutual
def uptoBulk {H : Type} : DataW H → Nat
  | .lit (.string bytes) => bytes.length + 1
  | .lit _ => 1
  | .nil => 1
  | .ptr d => uptoBulk d + 1
  | .slice elems spare => uptoBulkAll elems + uptoBulkAll spare + 1
  | .agg parts => uptoBulkAll parts + 1
  | .iface _ d => uptoBulk d + 1
  | .map entries => uptoBulkEntries entries + 1
  | .held _ => 1
def uptoBulkAll {H : Type} : List (DataW H) → Nat
  | [] => 0
  | d :: r => uptoBulk d + uptoBulkAll r
def uptoBulkEntries {H : Type} : List (Lit × DataW H) → Nat
  | [] => 0
  | x :: r => uptoBulkEntry x + uptoBulkEntries r
def uptoBulkEntry {H : Type} : Lit × DataW H → Nat
  | (.string bytes, d) => bytes.length + uptoBulk d + 1
  | (_, d) => uptoBulk d + 1
 end
def uptoSmall : (H : Type) → List (DataW H) → Bool := fun _ ds => decide (uptoBulkAll ds ≤ 1048576)
def OpenSpec.upto (s : _root_.Go.ChangeSpec) : _root_.Go.OpenSpec := { _root_.Go.OpenSpec.ofChange s with cond := some uptoSmall }

/-- 'laws.FnExactConstants', WHERE WHAT IT READS IS OF BULK AT MOST 1048576: true; the input reads as it did. -/
def fnExactConstantsUptoRow : OpenClaim := { program := "ytbbkhkipnkejmaa", sum := "374a6dc7a79f6507d24b31d8dd1261577a97bba26131f2e5c35407f47e97041c", func := "loop.example/g01168/laws.FnExactConstants", spec := "fnExactConstants", apart := false, narrowed := true }
def FnExactConstantsUptoSaid : Prop := fnExactConstantsUptoRow.holds Try.pinned (OpenSpec.upto fnExactConstantsSpec)

/-- 'laws.FnExactCodeName', WHERE WHAT IT READS IS OF BULK AT MOST 1048576: true; the input reads as it did. -/
def fnExactCodeNameUptoRow : OpenClaim := { program := "ytbbkhkipnkejmaa", sum := "374a6dc7a79f6507d24b31d8dd1261577a97bba26131f2e5c35407f47e97041c", func := "loop.example/g01168/laws.FnExactCodeName", spec := "fnExactCodeName", apart := false, narrowed := true }
def FnExactCodeNameUptoSaid : Prop := fnExactCodeNameUptoRow.holds Try.pinned (OpenSpec.upto fnExactCodeNameSpec)

/-- 'laws.FnExactColumnText', WHERE WHAT IT READS IS OF BULK AT MOST 1048576: true; the input reads as it did. -/
def fnExactColumnTextUptoRow : OpenClaim := { program := "ytbbkhkipnkejmaa", sum := "374a6dc7a79f6507d24b31d8dd1261577a97bba26131f2e5c35407f47e97041c", func := "loop.example/g01168/laws.FnExactColumnText", spec := "fnExactColumnText", apart := false, narrowed := true }
def FnExactColumnTextUptoSaid : Prop := fnExactColumnTextUptoRow.holds Try.pinned (OpenSpec.upto fnExactColumnTextSpec)

/-- 'laws.FnExactWordsOf', WHERE WHAT IT READS IS OF BULK AT MOST 1048576: true; the input reads as it did. -/
def fnExactWordsOfUptoRow : OpenClaim := { program := "ytbbkhkipnkejmaa", sum := "374a6dc7a79f6507d24b31d8dd1261577a97bba26131f2e5c35407f47e97041c", func := "loop.example/g01168/laws.FnExactWordsOf", spec := "fnExactWordsOf", apart := false, narrowed := true }
def FnExactWordsOfUptoSaid : Prop := fnExactWordsOfUptoRow.holds Try.pinned (OpenSpec.upto fnExactWordsOfSpec)

/-- 'laws.FnExactValidRelation', WHERE WHAT IT READS IS OF BULK AT MOST 1048576: true; the input reads as it did. -/
def fnExactValidRelationUptoRow : OpenClaim := { program := "ytbbkhkipnkejmaa", sum := "374a6dc7a79f6507d24b31d8dd1261577a97bba26131f2e5c35407f47e97041c", func := "loop.example/g01168/laws.FnExactValidRelation", spec := "fnExactValidRelation", apart := false, narrowed := true }
def FnExactValidRelationUptoSaid : Prop := fnExactValidRelationUptoRow.holds Try.pinned (OpenSpec.upto fnExactValidRelationSpec)

/-- 'laws.FnExactSameRelation', WHERE WHAT IT READS IS OF BULK AT MOST 1048576: true; the input reads as it did. -/
def fnExactSameRelationUptoRow : OpenClaim := { program := "ytbbkhkipnkejmaa", sum := "374a6dc7a79f6507d24b31d8dd1261577a97bba26131f2e5c35407f47e97041c", func := "loop.example/g01168/laws.FnExactSameRelation", spec := "fnExactSameRelation", unfollowed := true, recurses := true, apart := false, narrowed := true }
def FnExactSameRelationUptoSaid : Prop := fnExactSameRelationUptoRow.holds Try.pinned (OpenSpec.upto fnExactSameRelationSpec)

/-- 'laws.FnExactNestingOf', WHERE WHAT IT READS IS OF BULK AT MOST 1048576: true; the input reads as it did. -/
def fnExactNestingOfUptoRow : OpenClaim := { program := "ytbbkhkipnkejmaa", sum := "374a6dc7a79f6507d24b31d8dd1261577a97bba26131f2e5c35407f47e97041c", func := "loop.example/g01168/laws.FnExactNestingOf", spec := "fnExactNestingOf", recurses := true, apart := false, narrowed := true }
def FnExactNestingOfUptoSaid : Prop := fnExactNestingOfUptoRow.holds Try.pinned (OpenSpec.upto fnExactNestingOfSpec)

/-- 'laws.FnExactSamePresentation', WHERE WHAT IT READS IS OF BULK AT MOST 1048576: true; the input reads as it did. -/
def fnExactSamePresentationUptoRow : OpenClaim := { program := "ytbbkhkipnkejmaa", sum := "374a6dc7a79f6507d24b31d8dd1261577a97bba26131f2e5c35407f47e97041c", func := "loop.example/g01168/laws.FnExactSamePresentation", spec := "fnExactSamePresentation", unfollowed := true, recurses := true, apart := false, narrowed := true }
def FnExactSamePresentationUptoSaid : Prop := fnExactSamePresentationUptoRow.holds Try.pinned (OpenSpec.upto fnExactSamePresentationSpec)

/-- 'laws.FnExactValidPresentation', WHERE WHAT IT READS IS OF BULK AT MOST 1048576: true; the input reads as it did. -/
def fnExactValidPresentationUptoRow : OpenClaim := { program := "ytbbkhkipnkejmaa", sum := "374a6dc7a79f6507d24b31d8dd1261577a97bba26131f2e5c35407f47e97041c", func := "loop.example/g01168/laws.FnExactValidPresentation", spec := "fnExactValidPresentation", apart := false, narrowed := true }
def FnExactValidPresentationUptoSaid : Prop := fnExactValidPresentationUptoRow.holds Try.pinned (OpenSpec.upto fnExactValidPresentationSpec)

/-- 'laws.FnExactRenameFormula', WHERE WHAT IT READS IS OF BULK AT MOST 1048576: true; the input reads as it did. -/
def fnExactRenameFormulaUptoRow : OpenClaim := { program := "ytbbkhkipnkejmaa", sum := "374a6dc7a79f6507d24b31d8dd1261577a97bba26131f2e5c35407f47e97041c", func := "loop.example/g01168/laws.FnExactRenameFormula", spec := "fnExactRenameFormula", inPlace := ["internal/bytealg.IndexByteString", "internal/bytealg.IndexString"], recurses := true, named := ["internal/bytealg.MaxLen"], apart := false, narrowed := true }
def FnExactRenameFormulaUptoSaid : Prop := fnExactRenameFormulaUptoRow.holds Try.pinned (OpenSpec.upto fnExactRenameFormulaSpec)

end Rows
end Go.Proofs.Ytbbkhkipnkejmaa
