/-
  NARROWER THAN 'FOR EVERY INPUT', by the rows' own cells (each row's printed sentence says how): FnExactRelationText: laid · FnExactFreeVariables: laid · FnExactHolds: laid · FnExactAllTuples: laid · FnExactEqualWords: laid · FnExactIsPrefixRelation: laid · FnExactSuccessorRelation: laid · FnExactLengthRelation: laid · FnExactOrderRelation: laid · FnExactTidyRelation: laid · FnExactIsEmpty: laid.
  DERIVED. THE GIVEN ROWS OF THIS SEAT. 11 by the template 'for every input the law returns true; each argument reads behind the call as it read before'; 0 by the template 'total and deterministic' (their statements: YtbkcllfgolmloaaDoorTotals.lean).
  GIVEN WITH THE SEED: the statements are not yours to turn. If you find one false, say at which input.
  Laid BY PROGRAM, IN A SANDBOX (cutbox-rows.mjs): the forced cells as the released guide's own fill.sh prints them over the translation 0bf34d3456bea952… (all of the seat's roots in one cut). By AI agents, Wed Nov 11 2026. No macro, syntax, notation, axiom, sorry.
-/
import Derived.Test.YtbkcllfgolmloaaDoorChecked
import GoSem.PinnedTables
import GoSem.Claim
import GoSem.ClaimJoined
import GoSem.ClaimMapViews
import Derived.JoinedTies
import Derived.KernelRfl
namespace Go.Proofs.YtbkcllfgolmloaaDoor
/- THE CELL 'sum', in the pinned program and in every row, IS THE sha256 OF THE DUMP (.gsa) THAT YtbkcllfgolmloaaDoorProg.lean LOADS. Nothing in Lean hashes anything: it is a label: what it is worth is what the hold of that sum in a sandbox is worth. -/
noncomputable def Tryd.pinned : Pinned := { name := "ytbkcllfgolmloaadoor", sum := "0bf34d3456bea952d29d505296137247675ad9498092fcf409911ad228222227", checked := Tryd.checked }
namespace Rows
def none {H : Type} : Left H := { results := [], args := [] }

/- WHAT THE LISTED PACKAGE-LEVEL VARIABLES READ AS WHEN THE CALL BEGINS. Each datum BY PROGRAM (the guide's laid-datum.mjs) off the statement by which the dump's own 'gosem.cut.vars' lays the variable. In a bare row this is a premise. The card (YtbkcllfgolmloaaDoorCards.lean) ties it to the program's text. -/
def laid_math_bits_deBruijn32tab {H : Type} : DataW H := .agg [.lit (.int .u8 0), .lit (.int .u8 1), .lit (.int .u8 28), .lit (.int .u8 2), .lit (.int .u8 29), .lit (.int .u8 14), .lit (.int .u8 24), .lit (.int .u8 3), .lit (.int .u8 30), .lit (.int .u8 22), .lit (.int .u8 20), .lit (.int .u8 15), .lit (.int .u8 25), .lit (.int .u8 17), .lit (.int .u8 4), .lit (.int .u8 8), .lit (.int .u8 31), .lit (.int .u8 27), .lit (.int .u8 13), .lit (.int .u8 23), .lit (.int .u8 21), .lit (.int .u8 19), .lit (.int .u8 16), .lit (.int .u8 7), .lit (.int .u8 26), .lit (.int .u8 12), .lit (.int .u8 18), .lit (.int .u8 6), .lit (.int .u8 11), .lit (.int .u8 5), .lit (.int .u8 10), .lit (.int .u8 9)]
def laid_math_bits_deBruijn64tab {H : Type} : DataW H := .agg [.lit (.int .u8 0), .lit (.int .u8 1), .lit (.int .u8 56), .lit (.int .u8 2), .lit (.int .u8 57), .lit (.int .u8 49), .lit (.int .u8 28), .lit (.int .u8 3), .lit (.int .u8 61), .lit (.int .u8 58), .lit (.int .u8 42), .lit (.int .u8 50), .lit (.int .u8 38), .lit (.int .u8 29), .lit (.int .u8 17), .lit (.int .u8 4), .lit (.int .u8 62), .lit (.int .u8 47), .lit (.int .u8 59), .lit (.int .u8 36), .lit (.int .u8 45), .lit (.int .u8 43), .lit (.int .u8 51), .lit (.int .u8 22), .lit (.int .u8 53), .lit (.int .u8 39), .lit (.int .u8 33), .lit (.int .u8 30), .lit (.int .u8 24), .lit (.int .u8 18), .lit (.int .u8 12), .lit (.int .u8 5), .lit (.int .u8 63), .lit (.int .u8 55), .lit (.int .u8 48), .lit (.int .u8 27), .lit (.int .u8 60), .lit (.int .u8 41), .lit (.int .u8 37), .lit (.int .u8 16), .lit (.int .u8 46), .lit (.int .u8 35), .lit (.int .u8 44), .lit (.int .u8 21), .lit (.int .u8 52), .lit (.int .u8 32), .lit (.int .u8 23), .lit (.int .u8 11), .lit (.int .u8 54), .lit (.int .u8 26), .lit (.int .u8 40), .lit (.int .u8 15), .lit (.int .u8 34), .lit (.int .u8 20), .lit (.int .u8 31), .lit (.int .u8 10), .lit (.int .u8 25), .lit (.int .u8 14), .lit (.int .u8 19), .lit (.int .u8 9), .lit (.int .u8 13), .lit (.int .u8 8), .lit (.int .u8 7), .lit (.int .u8 6)]
def laid_internal_strconv_uint64pow10 {H : Type} : DataW H := .agg [.lit (.int .u64 1), .lit (.int .u64 10), .lit (.int .u64 100), .lit (.int .u64 1000), .lit (.int .u64 10000), .lit (.int .u64 100000), .lit (.int .u64 1000000), .lit (.int .u64 10000000), .lit (.int .u64 100000000), .lit (.int .u64 1000000000), .lit (.int .u64 10000000000), .lit (.int .u64 100000000000), .lit (.int .u64 1000000000000), .lit (.int .u64 10000000000000), .lit (.int .u64 100000000000000), .lit (.int .u64 1000000000000000), .lit (.int .u64 10000000000000000), .lit (.int .u64 100000000000000000), .lit (.int .u64 1000000000000000000), .lit (.int .u64 10000000000000000000)]
def laid_unicode_utf8_acceptRanges {H : Type} : DataW H := .agg [.agg [.lit (.int .u8 128), .lit (.int .u8 191)], .agg [.lit (.int .u8 160), .lit (.int .u8 191)], .agg [.lit (.int .u8 128), .lit (.int .u8 159)], .agg [.lit (.int .u8 144), .lit (.int .u8 191)], .agg [.lit (.int .u8 128), .lit (.int .u8 143)], .agg [.lit (.int .u8 0), .lit (.int .u8 0)], .agg [.lit (.int .u8 0), .lit (.int .u8 0)], .agg [.lit (.int .u8 0), .lit (.int .u8 0)], .agg [.lit (.int .u8 0), .lit (.int .u8 0)], .agg [.lit (.int .u8 0), .lit (.int .u8 0)], .agg [.lit (.int .u8 0), .lit (.int .u8 0)], .agg [.lit (.int .u8 0), .lit (.int .u8 0)], .agg [.lit (.int .u8 0), .lit (.int .u8 0)], .agg [.lit (.int .u8 0), .lit (.int .u8 0)], .agg [.lit (.int .u8 0), .lit (.int .u8 0)], .agg [.lit (.int .u8 0), .lit (.int .u8 0)]]
/-- One of Go's own tables, pinned by name: the form's constant. -/
def laid_unicode_utf8_first : DataW Unit := Go.Pinned.utf8First

/-- 'laws.FnExactRelationText': WHATEVER THE INPUT: true; the input reads as it did. -/
def fnExactRelationTextSpec : ChangeSpec := { name := "fnExactRelationText", fn := fun _ => fun
  | [d] => { results := [.lit (.bool true)], args := [d] }
  | _ => none }
def fnExactRelationTextRow : OpenClaim := { program := "ytbkcllfgolmloaadoor", sum := "0bf34d3456bea952d29d505296137247675ad9498092fcf409911ad228222227", func := "loop.example/g01168/laws.FnExactRelationText", spec := "fnExactRelationText", inPlace := ["internal/abi.NoEscape"], recurses := true, named := ["internal/strconv.uint64pow10", "math/bits.deBruijn32tab", "math/bits.deBruijn64tab"], plainKeys := false, apart := false, laid := [("math/bits.deBruijn32tab", laid_math_bits_deBruijn32tab), ("math/bits.deBruijn64tab", laid_math_bits_deBruijn64tab), ("internal/strconv.uint64pow10", laid_internal_strconv_uint64pow10)] }
def FnExactRelationTextSaid : Prop := fnExactRelationTextRow.holds Tryd.pinned (OpenSpec.ofChange fnExactRelationTextSpec)

/-- ITS FALSE NEIGHBOUR: 'it returns false'. Refute it at one input. -/
def fnExactRelationTextWrong : ChangeSpec := { name := "fnExactRelationText", fn := fun _ => fun
  | [d] => { results := [.lit (.bool false)], args := [d] }
  | _ => none }
def FnExactRelationTextWrongFalsely : Prop := fnExactRelationTextRow.holds Tryd.pinned (OpenSpec.ofChange fnExactRelationTextWrong)

/-- 'laws.FnExactFreeVariables': WHATEVER THE INPUT: true; the input reads as it did. -/
def fnExactFreeVariablesSpec : ChangeSpec := { name := "fnExactFreeVariables", fn := fun _ => fun
  | [d] => { results := [.lit (.bool true)], args := [d] }
  | _ => none }
def fnExactFreeVariablesRow : OpenClaim := { program := "ytbkcllfgolmloaadoor", sum := "0bf34d3456bea952d29d505296137247675ad9498092fcf409911ad228222227", func := "loop.example/g01168/laws.FnExactFreeVariables", spec := "fnExactFreeVariables", inPlace := ["internal/bytealg.IndexByteString", "internal/bytealg.IndexString", "internal/bytealg.CountString", "internal/abi.NoEscape", "internal/bytealg.MakeNoZero"], recurses := true, named := ["internal/bytealg.MaxLen", "unicode/utf8.first", "unicode/utf8.acceptRanges"], plainKeys := false, apart := false, laid := [("unicode/utf8.acceptRanges", laid_unicode_utf8_acceptRanges), ("unicode/utf8.first", laid_unicode_utf8_first)] }
def FnExactFreeVariablesSaid : Prop := fnExactFreeVariablesRow.holds Tryd.pinned (OpenSpec.ofChange fnExactFreeVariablesSpec)

/-- ITS FALSE NEIGHBOUR: 'it returns false'. Refute it at one input. -/
def fnExactFreeVariablesWrong : ChangeSpec := { name := "fnExactFreeVariables", fn := fun _ => fun
  | [d] => { results := [.lit (.bool false)], args := [d] }
  | _ => none }
def FnExactFreeVariablesWrongFalsely : Prop := fnExactFreeVariablesRow.holds Tryd.pinned (OpenSpec.ofChange fnExactFreeVariablesWrong)

/-- 'laws.FnExactHolds': WHATEVER THE INPUT: true; the input reads as it did. -/
def fnExactHoldsSpec : ChangeSpec := { name := "fnExactHolds", fn := fun _ => fun
  | [d1, d2] => { results := [.lit (.bool true)], args := [d1, d2] }
  | _ => none }
def fnExactHoldsRow : OpenClaim := { program := "ytbkcllfgolmloaadoor", sum := "0bf34d3456bea952d29d505296137247675ad9498092fcf409911ad228222227", func := "loop.example/g01168/laws.FnExactHolds", spec := "fnExactHolds", inPlace := ["internal/bytealg.IndexByteString", "internal/bytealg.IndexString"], named := ["unicode/utf8.first", "unicode/utf8.acceptRanges", "internal/bytealg.MaxLen"], plainKeys := false, apart := false, laid := [("unicode/utf8.acceptRanges", laid_unicode_utf8_acceptRanges), ("unicode/utf8.first", laid_unicode_utf8_first)] }
def FnExactHoldsSaid : Prop := fnExactHoldsRow.holds Tryd.pinned (OpenSpec.ofChange fnExactHoldsSpec)

/-- ITS FALSE NEIGHBOUR: 'it returns false'. Refute it at one input. -/
def fnExactHoldsWrong : ChangeSpec := { name := "fnExactHolds", fn := fun _ => fun
  | [d1, d2] => { results := [.lit (.bool false)], args := [d1, d2] }
  | _ => none }
def FnExactHoldsWrongFalsely : Prop := fnExactHoldsRow.holds Tryd.pinned (OpenSpec.ofChange fnExactHoldsWrong)

/-- 'laws.FnExactAllTuples': WHATEVER THE INPUT: true; the input reads as it did. -/
def fnExactAllTuplesSpec : ChangeSpec := { name := "fnExactAllTuples", fn := fun _ => fun
  | [d] => { results := [.lit (.bool true)], args := [d] }
  | _ => none }
def fnExactAllTuplesRow : OpenClaim := { program := "ytbkcllfgolmloaadoor", sum := "0bf34d3456bea952d29d505296137247675ad9498092fcf409911ad228222227", func := "loop.example/g01168/laws.FnExactAllTuples", spec := "fnExactAllTuples", unfollowed := true, recurses := true, named := ["internal/strconv.uint64pow10", "math/bits.deBruijn32tab", "math/bits.deBruijn64tab"], plainKeys := false, apart := false, laid := [("math/bits.deBruijn32tab", laid_math_bits_deBruijn32tab), ("math/bits.deBruijn64tab", laid_math_bits_deBruijn64tab), ("internal/strconv.uint64pow10", laid_internal_strconv_uint64pow10)] }
def FnExactAllTuplesSaid : Prop := fnExactAllTuplesRow.holds Tryd.pinned (OpenSpec.ofChange fnExactAllTuplesSpec)

/-- ITS FALSE NEIGHBOUR: 'it returns false'. Refute it at one input. -/
def fnExactAllTuplesWrong : ChangeSpec := { name := "fnExactAllTuples", fn := fun _ => fun
  | [d] => { results := [.lit (.bool false)], args := [d] }
  | _ => none }
def FnExactAllTuplesWrongFalsely : Prop := fnExactAllTuplesRow.holds Tryd.pinned (OpenSpec.ofChange fnExactAllTuplesWrong)

/-- 'laws.FnExactEqualWords': WHATEVER THE INPUT: true; the input reads as it did. -/
def fnExactEqualWordsSpec : ChangeSpec := { name := "fnExactEqualWords", fn := fun _ => fun
  | [] => { results := [.lit (.bool true)], args := [] }
  | _ => none }
def fnExactEqualWordsRow : OpenClaim := { program := "ytbkcllfgolmloaadoor", sum := "0bf34d3456bea952d29d505296137247675ad9498092fcf409911ad228222227", func := "loop.example/g01168/laws.FnExactEqualWords", spec := "fnExactEqualWords", unfollowed := true, recurses := true, named := ["internal/strconv.uint64pow10", "math/bits.deBruijn32tab", "math/bits.deBruijn64tab"], plainKeys := false, apart := false, laid := [("math/bits.deBruijn32tab", laid_math_bits_deBruijn32tab), ("math/bits.deBruijn64tab", laid_math_bits_deBruijn64tab), ("internal/strconv.uint64pow10", laid_internal_strconv_uint64pow10)] }
def FnExactEqualWordsSaid : Prop := fnExactEqualWordsRow.holds Tryd.pinned (OpenSpec.ofChange fnExactEqualWordsSpec)

/-- ITS FALSE NEIGHBOUR: 'it returns false'. Refute it at one input. -/
def fnExactEqualWordsWrong : ChangeSpec := { name := "fnExactEqualWords", fn := fun _ => fun
  | [] => { results := [.lit (.bool false)], args := [] }
  | _ => none }
def FnExactEqualWordsWrongFalsely : Prop := fnExactEqualWordsRow.holds Tryd.pinned (OpenSpec.ofChange fnExactEqualWordsWrong)

/-- 'laws.FnExactIsPrefixRelation': WHATEVER THE INPUT: true; the input reads as it did. -/
def fnExactIsPrefixRelationSpec : ChangeSpec := { name := "fnExactIsPrefixRelation", fn := fun _ => fun
  | [] => { results := [.lit (.bool true)], args := [] }
  | _ => none }
def fnExactIsPrefixRelationRow : OpenClaim := { program := "ytbkcllfgolmloaadoor", sum := "0bf34d3456bea952d29d505296137247675ad9498092fcf409911ad228222227", func := "loop.example/g01168/laws.FnExactIsPrefixRelation", spec := "fnExactIsPrefixRelation", unfollowed := true, recurses := true, named := ["internal/strconv.uint64pow10", "math/bits.deBruijn32tab", "math/bits.deBruijn64tab"], plainKeys := false, apart := false, laid := [("math/bits.deBruijn32tab", laid_math_bits_deBruijn32tab), ("math/bits.deBruijn64tab", laid_math_bits_deBruijn64tab), ("internal/strconv.uint64pow10", laid_internal_strconv_uint64pow10)] }
def FnExactIsPrefixRelationSaid : Prop := fnExactIsPrefixRelationRow.holds Tryd.pinned (OpenSpec.ofChange fnExactIsPrefixRelationSpec)

/-- ITS FALSE NEIGHBOUR: 'it returns false'. Refute it at one input. -/
def fnExactIsPrefixRelationWrong : ChangeSpec := { name := "fnExactIsPrefixRelation", fn := fun _ => fun
  | [] => { results := [.lit (.bool false)], args := [] }
  | _ => none }
def FnExactIsPrefixRelationWrongFalsely : Prop := fnExactIsPrefixRelationRow.holds Tryd.pinned (OpenSpec.ofChange fnExactIsPrefixRelationWrong)

/-- 'laws.FnExactSuccessorRelation': WHATEVER THE INPUT: true; the input reads as it did. -/
def fnExactSuccessorRelationSpec : ChangeSpec := { name := "fnExactSuccessorRelation", fn := fun _ => fun
  | [] => { results := [.lit (.bool true)], args := [] }
  | _ => none }
def fnExactSuccessorRelationRow : OpenClaim := { program := "ytbkcllfgolmloaadoor", sum := "0bf34d3456bea952d29d505296137247675ad9498092fcf409911ad228222227", func := "loop.example/g01168/laws.FnExactSuccessorRelation", spec := "fnExactSuccessorRelation", unfollowed := true, recurses := true, named := ["internal/strconv.uint64pow10", "math/bits.deBruijn32tab", "math/bits.deBruijn64tab"], plainKeys := false, apart := false, laid := [("math/bits.deBruijn32tab", laid_math_bits_deBruijn32tab), ("math/bits.deBruijn64tab", laid_math_bits_deBruijn64tab), ("internal/strconv.uint64pow10", laid_internal_strconv_uint64pow10)] }
def FnExactSuccessorRelationSaid : Prop := fnExactSuccessorRelationRow.holds Tryd.pinned (OpenSpec.ofChange fnExactSuccessorRelationSpec)

/-- ITS FALSE NEIGHBOUR: 'it returns false'. Refute it at one input. -/
def fnExactSuccessorRelationWrong : ChangeSpec := { name := "fnExactSuccessorRelation", fn := fun _ => fun
  | [] => { results := [.lit (.bool false)], args := [] }
  | _ => none }
def FnExactSuccessorRelationWrongFalsely : Prop := fnExactSuccessorRelationRow.holds Tryd.pinned (OpenSpec.ofChange fnExactSuccessorRelationWrong)

/-- 'laws.FnExactLengthRelation': WHATEVER THE INPUT: true; the input reads as it did. -/
def fnExactLengthRelationSpec : ChangeSpec := { name := "fnExactLengthRelation", fn := fun _ => fun
  | [d] => { results := [.lit (.bool true)], args := [d] }
  | _ => none }
def fnExactLengthRelationRow : OpenClaim := { program := "ytbkcllfgolmloaadoor", sum := "0bf34d3456bea952d29d505296137247675ad9498092fcf409911ad228222227", func := "loop.example/g01168/laws.FnExactLengthRelation", spec := "fnExactLengthRelation", unfollowed := true, recurses := true, named := ["internal/strconv.uint64pow10", "math/bits.deBruijn32tab", "math/bits.deBruijn64tab"], plainKeys := false, apart := false, laid := [("math/bits.deBruijn32tab", laid_math_bits_deBruijn32tab), ("math/bits.deBruijn64tab", laid_math_bits_deBruijn64tab), ("internal/strconv.uint64pow10", laid_internal_strconv_uint64pow10)] }
def FnExactLengthRelationSaid : Prop := fnExactLengthRelationRow.holds Tryd.pinned (OpenSpec.ofChange fnExactLengthRelationSpec)

/-- ITS FALSE NEIGHBOUR: 'it returns false'. Refute it at one input. -/
def fnExactLengthRelationWrong : ChangeSpec := { name := "fnExactLengthRelation", fn := fun _ => fun
  | [d] => { results := [.lit (.bool false)], args := [d] }
  | _ => none }
def FnExactLengthRelationWrongFalsely : Prop := fnExactLengthRelationRow.holds Tryd.pinned (OpenSpec.ofChange fnExactLengthRelationWrong)

/-- 'laws.FnExactOrderRelation': WHATEVER THE INPUT: true; the input reads as it did. -/
def fnExactOrderRelationSpec : ChangeSpec := { name := "fnExactOrderRelation", fn := fun _ => fun
  | [] => { results := [.lit (.bool true)], args := [] }
  | _ => none }
def fnExactOrderRelationRow : OpenClaim := { program := "ytbkcllfgolmloaadoor", sum := "0bf34d3456bea952d29d505296137247675ad9498092fcf409911ad228222227", func := "loop.example/g01168/laws.FnExactOrderRelation", spec := "fnExactOrderRelation", unfollowed := true, recurses := true, named := ["internal/strconv.uint64pow10", "math/bits.deBruijn32tab", "math/bits.deBruijn64tab"], plainKeys := false, apart := false, laid := [("math/bits.deBruijn32tab", laid_math_bits_deBruijn32tab), ("math/bits.deBruijn64tab", laid_math_bits_deBruijn64tab), ("internal/strconv.uint64pow10", laid_internal_strconv_uint64pow10)] }
def FnExactOrderRelationSaid : Prop := fnExactOrderRelationRow.holds Tryd.pinned (OpenSpec.ofChange fnExactOrderRelationSpec)

/-- ITS FALSE NEIGHBOUR: 'it returns false'. Refute it at one input. -/
def fnExactOrderRelationWrong : ChangeSpec := { name := "fnExactOrderRelation", fn := fun _ => fun
  | [] => { results := [.lit (.bool false)], args := [] }
  | _ => none }
def FnExactOrderRelationWrongFalsely : Prop := fnExactOrderRelationRow.holds Tryd.pinned (OpenSpec.ofChange fnExactOrderRelationWrong)

/-- 'laws.FnExactTidyRelation': WHATEVER THE INPUT: true; the input reads as it did. -/
def fnExactTidyRelationSpec : ChangeSpec := { name := "fnExactTidyRelation", fn := fun _ => fun
  | [d] => { results := [.lit (.bool true)], args := [d] }
  | _ => none }
def fnExactTidyRelationRow : OpenClaim := { program := "ytbkcllfgolmloaadoor", sum := "0bf34d3456bea952d29d505296137247675ad9498092fcf409911ad228222227", func := "loop.example/g01168/laws.FnExactTidyRelation", spec := "fnExactTidyRelation", unfollowed := true, recurses := true, named := ["internal/strconv.uint64pow10", "math/bits.deBruijn32tab", "math/bits.deBruijn64tab"], plainKeys := false, apart := false, laid := [("math/bits.deBruijn32tab", laid_math_bits_deBruijn32tab), ("math/bits.deBruijn64tab", laid_math_bits_deBruijn64tab), ("internal/strconv.uint64pow10", laid_internal_strconv_uint64pow10)] }
def FnExactTidyRelationSaid : Prop := fnExactTidyRelationRow.holds Tryd.pinned (OpenSpec.ofChange fnExactTidyRelationSpec)

/-- ITS FALSE NEIGHBOUR: 'it returns false'. Refute it at one input. -/
def fnExactTidyRelationWrong : ChangeSpec := { name := "fnExactTidyRelation", fn := fun _ => fun
  | [d] => { results := [.lit (.bool false)], args := [d] }
  | _ => none }
def FnExactTidyRelationWrongFalsely : Prop := fnExactTidyRelationRow.holds Tryd.pinned (OpenSpec.ofChange fnExactTidyRelationWrong)

/-- 'laws.FnExactIsEmpty': WHATEVER THE INPUT: true; the input reads as it did. -/
def fnExactIsEmptySpec : ChangeSpec := { name := "fnExactIsEmpty", fn := fun _ => fun
  | [d] => { results := [.lit (.bool true)], args := [d] }
  | _ => none }
def fnExactIsEmptyRow : OpenClaim := { program := "ytbkcllfgolmloaadoor", sum := "0bf34d3456bea952d29d505296137247675ad9498092fcf409911ad228222227", func := "loop.example/g01168/laws.FnExactIsEmpty", spec := "fnExactIsEmpty", unfollowed := true, recurses := true, named := ["internal/strconv.uint64pow10", "math/bits.deBruijn32tab", "math/bits.deBruijn64tab"], plainKeys := false, apart := false, laid := [("math/bits.deBruijn32tab", laid_math_bits_deBruijn32tab), ("math/bits.deBruijn64tab", laid_math_bits_deBruijn64tab), ("internal/strconv.uint64pow10", laid_internal_strconv_uint64pow10)] }
def FnExactIsEmptySaid : Prop := fnExactIsEmptyRow.holds Tryd.pinned (OpenSpec.ofChange fnExactIsEmptySpec)

/-- ITS FALSE NEIGHBOUR: 'it returns false'. Refute it at one input. -/
def fnExactIsEmptyWrong : ChangeSpec := { name := "fnExactIsEmpty", fn := fun _ => fun
  | [d] => { results := [.lit (.bool false)], args := [d] }
  | _ => none }
def FnExactIsEmptyWrongFalsely : Prop := fnExactIsEmptyRow.holds Tryd.pinned (OpenSpec.ofChange fnExactIsEmptyWrong)

/- THE SECOND FORM. 'bulk': how many values and letters a reading holds, each counted each time it is reached (what is shared counts as often as it is met; a slice's spare places count too). A statement '..UptoSaid' is the law's where the arguments, and the package variables that the reading takes, are together of bulk at most 1048576: NARROWER than '..Said'. Prove '..Said' where nothing that the law and all that it calls make is longer than what came in: it says more and counts as full. Else prove '..UptoSaid'. A law counts once. -/
mutual
def uptoBulk {H : Type} : DataW H → Nat
  | .lit (.string bytes) => bytes.length + 1
  | .lit _ => 1
  | .nil => 1
  | .ptr d => uptoBulk d + 1
  | .slice elems spare => uptoBulkAll elems + uptoBulkAll spare + 1
  | .agg parts => uptoBulkAll parts + 1
  | .iface _ d => uptoBulk d + 1
  | .map entries => uptoBulkEntries entries + 1
  | .held _ => 1
def uptoBulkAll {H : Type} : List (DataW H) → Nat
  | [] => 0
  | d :: r => uptoBulk d + uptoBulkAll r
def uptoBulkEntries {H : Type} : List (Lit × DataW H) → Nat
  | [] => 0
  | x :: r => uptoBulkEntry x + uptoBulkEntries r
def uptoBulkEntry {H : Type} : Lit × DataW H → Nat
  | (.string bytes, d) => bytes.length + uptoBulk d + 1
  | (_, d) => uptoBulk d + 1
 end
def uptoSmall : (H : Type) → List (DataW H) → Bool := fun _ ds => decide (uptoBulkAll ds ≤ 1048576)
def OpenSpec.upto (s : _root_.Go.ChangeSpec) : _root_.Go.OpenSpec := { _root_.Go.OpenSpec.ofChange s with cond := some uptoSmall }

/-- 'laws.FnExactRelationText', WHERE WHAT IT READS IS OF BULK AT MOST 1048576: true; the input reads as it did. -/
def fnExactRelationTextUptoRow : OpenClaim := { program := "ytbkcllfgolmloaadoor", sum := "0bf34d3456bea952d29d505296137247675ad9498092fcf409911ad228222227", func := "loop.example/g01168/laws.FnExactRelationText", spec := "fnExactRelationText", inPlace := ["internal/abi.NoEscape"], recurses := true, named := ["internal/strconv.uint64pow10", "math/bits.deBruijn32tab", "math/bits.deBruijn64tab"], plainKeys := false, apart := false, laid := [("math/bits.deBruijn32tab", laid_math_bits_deBruijn32tab), ("math/bits.deBruijn64tab", laid_math_bits_deBruijn64tab), ("internal/strconv.uint64pow10", laid_internal_strconv_uint64pow10)], narrowed := true }
def FnExactRelationTextUptoSaid : Prop := fnExactRelationTextUptoRow.holds Tryd.pinned (OpenSpec.upto fnExactRelationTextSpec)

/-- 'laws.FnExactFreeVariables', WHERE WHAT IT READS IS OF BULK AT MOST 1048576: true; the input reads as it did. -/
def fnExactFreeVariablesUptoRow : OpenClaim := { program := "ytbkcllfgolmloaadoor", sum := "0bf34d3456bea952d29d505296137247675ad9498092fcf409911ad228222227", func := "loop.example/g01168/laws.FnExactFreeVariables", spec := "fnExactFreeVariables", inPlace := ["internal/bytealg.IndexByteString", "internal/bytealg.IndexString", "internal/bytealg.CountString", "internal/abi.NoEscape", "internal/bytealg.MakeNoZero"], recurses := true, named := ["internal/bytealg.MaxLen", "unicode/utf8.first", "unicode/utf8.acceptRanges"], plainKeys := false, apart := false, laid := [("unicode/utf8.acceptRanges", laid_unicode_utf8_acceptRanges), ("unicode/utf8.first", laid_unicode_utf8_first)], narrowed := true }
def FnExactFreeVariablesUptoSaid : Prop := fnExactFreeVariablesUptoRow.holds Tryd.pinned (OpenSpec.upto fnExactFreeVariablesSpec)

/-- 'laws.FnExactHolds', WHERE WHAT IT READS IS OF BULK AT MOST 1048576: true; the input reads as it did. -/
def fnExactHoldsUptoRow : OpenClaim := { program := "ytbkcllfgolmloaadoor", sum := "0bf34d3456bea952d29d505296137247675ad9498092fcf409911ad228222227", func := "loop.example/g01168/laws.FnExactHolds", spec := "fnExactHolds", inPlace := ["internal/bytealg.IndexByteString", "internal/bytealg.IndexString"], named := ["unicode/utf8.first", "unicode/utf8.acceptRanges", "internal/bytealg.MaxLen"], plainKeys := false, apart := false, laid := [("unicode/utf8.acceptRanges", laid_unicode_utf8_acceptRanges), ("unicode/utf8.first", laid_unicode_utf8_first)], narrowed := true }
def FnExactHoldsUptoSaid : Prop := fnExactHoldsUptoRow.holds Tryd.pinned (OpenSpec.upto fnExactHoldsSpec)

/-- 'laws.FnExactAllTuples', WHERE WHAT IT READS IS OF BULK AT MOST 1048576: true; the input reads as it did. -/
def fnExactAllTuplesUptoRow : OpenClaim := { program := "ytbkcllfgolmloaadoor", sum := "0bf34d3456bea952d29d505296137247675ad9498092fcf409911ad228222227", func := "loop.example/g01168/laws.FnExactAllTuples", spec := "fnExactAllTuples", unfollowed := true, recurses := true, named := ["internal/strconv.uint64pow10", "math/bits.deBruijn32tab", "math/bits.deBruijn64tab"], plainKeys := false, apart := false, laid := [("math/bits.deBruijn32tab", laid_math_bits_deBruijn32tab), ("math/bits.deBruijn64tab", laid_math_bits_deBruijn64tab), ("internal/strconv.uint64pow10", laid_internal_strconv_uint64pow10)], narrowed := true }
def FnExactAllTuplesUptoSaid : Prop := fnExactAllTuplesUptoRow.holds Tryd.pinned (OpenSpec.upto fnExactAllTuplesSpec)

/-- 'laws.FnExactEqualWords', WHERE WHAT IT READS IS OF BULK AT MOST 1048576: true; the input reads as it did. -/
def fnExactEqualWordsUptoRow : OpenClaim := { program := "ytbkcllfgolmloaadoor", sum := "0bf34d3456bea952d29d505296137247675ad9498092fcf409911ad228222227", func := "loop.example/g01168/laws.FnExactEqualWords", spec := "fnExactEqualWords", unfollowed := true, recurses := true, named := ["internal/strconv.uint64pow10", "math/bits.deBruijn32tab", "math/bits.deBruijn64tab"], plainKeys := false, apart := false, laid := [("math/bits.deBruijn32tab", laid_math_bits_deBruijn32tab), ("math/bits.deBruijn64tab", laid_math_bits_deBruijn64tab), ("internal/strconv.uint64pow10", laid_internal_strconv_uint64pow10)], narrowed := true }
def FnExactEqualWordsUptoSaid : Prop := fnExactEqualWordsUptoRow.holds Tryd.pinned (OpenSpec.upto fnExactEqualWordsSpec)

/-- 'laws.FnExactIsPrefixRelation', WHERE WHAT IT READS IS OF BULK AT MOST 1048576: true; the input reads as it did. -/
def fnExactIsPrefixRelationUptoRow : OpenClaim := { program := "ytbkcllfgolmloaadoor", sum := "0bf34d3456bea952d29d505296137247675ad9498092fcf409911ad228222227", func := "loop.example/g01168/laws.FnExactIsPrefixRelation", spec := "fnExactIsPrefixRelation", unfollowed := true, recurses := true, named := ["internal/strconv.uint64pow10", "math/bits.deBruijn32tab", "math/bits.deBruijn64tab"], plainKeys := false, apart := false, laid := [("math/bits.deBruijn32tab", laid_math_bits_deBruijn32tab), ("math/bits.deBruijn64tab", laid_math_bits_deBruijn64tab), ("internal/strconv.uint64pow10", laid_internal_strconv_uint64pow10)], narrowed := true }
def FnExactIsPrefixRelationUptoSaid : Prop := fnExactIsPrefixRelationUptoRow.holds Tryd.pinned (OpenSpec.upto fnExactIsPrefixRelationSpec)

/-- 'laws.FnExactSuccessorRelation', WHERE WHAT IT READS IS OF BULK AT MOST 1048576: true; the input reads as it did. -/
def fnExactSuccessorRelationUptoRow : OpenClaim := { program := "ytbkcllfgolmloaadoor", sum := "0bf34d3456bea952d29d505296137247675ad9498092fcf409911ad228222227", func := "loop.example/g01168/laws.FnExactSuccessorRelation", spec := "fnExactSuccessorRelation", unfollowed := true, recurses := true, named := ["internal/strconv.uint64pow10", "math/bits.deBruijn32tab", "math/bits.deBruijn64tab"], plainKeys := false, apart := false, laid := [("math/bits.deBruijn32tab", laid_math_bits_deBruijn32tab), ("math/bits.deBruijn64tab", laid_math_bits_deBruijn64tab), ("internal/strconv.uint64pow10", laid_internal_strconv_uint64pow10)], narrowed := true }
def FnExactSuccessorRelationUptoSaid : Prop := fnExactSuccessorRelationUptoRow.holds Tryd.pinned (OpenSpec.upto fnExactSuccessorRelationSpec)

/-- 'laws.FnExactLengthRelation', WHERE WHAT IT READS IS OF BULK AT MOST 1048576: true; the input reads as it did. -/
def fnExactLengthRelationUptoRow : OpenClaim := { program := "ytbkcllfgolmloaadoor", sum := "0bf34d3456bea952d29d505296137247675ad9498092fcf409911ad228222227", func := "loop.example/g01168/laws.FnExactLengthRelation", spec := "fnExactLengthRelation", unfollowed := true, recurses := true, named := ["internal/strconv.uint64pow10", "math/bits.deBruijn32tab", "math/bits.deBruijn64tab"], plainKeys := false, apart := false, laid := [("math/bits.deBruijn32tab", laid_math_bits_deBruijn32tab), ("math/bits.deBruijn64tab", laid_math_bits_deBruijn64tab), ("internal/strconv.uint64pow10", laid_internal_strconv_uint64pow10)], narrowed := true }
def FnExactLengthRelationUptoSaid : Prop := fnExactLengthRelationUptoRow.holds Tryd.pinned (OpenSpec.upto fnExactLengthRelationSpec)

/-- 'laws.FnExactOrderRelation', WHERE WHAT IT READS IS OF BULK AT MOST 1048576: true; the input reads as it did. -/
def fnExactOrderRelationUptoRow : OpenClaim := { program := "ytbkcllfgolmloaadoor", sum := "0bf34d3456bea952d29d505296137247675ad9498092fcf409911ad228222227", func := "loop.example/g01168/laws.FnExactOrderRelation", spec := "fnExactOrderRelation", unfollowed := true, recurses := true, named := ["internal/strconv.uint64pow10", "math/bits.deBruijn32tab", "math/bits.deBruijn64tab"], plainKeys := false, apart := false, laid := [("math/bits.deBruijn32tab", laid_math_bits_deBruijn32tab), ("math/bits.deBruijn64tab", laid_math_bits_deBruijn64tab), ("internal/strconv.uint64pow10", laid_internal_strconv_uint64pow10)], narrowed := true }
def FnExactOrderRelationUptoSaid : Prop := fnExactOrderRelationUptoRow.holds Tryd.pinned (OpenSpec.upto fnExactOrderRelationSpec)

/-- 'laws.FnExactTidyRelation', WHERE WHAT IT READS IS OF BULK AT MOST 1048576: true; the input reads as it did. -/
def fnExactTidyRelationUptoRow : OpenClaim := { program := "ytbkcllfgolmloaadoor", sum := "0bf34d3456bea952d29d505296137247675ad9498092fcf409911ad228222227", func := "loop.example/g01168/laws.FnExactTidyRelation", spec := "fnExactTidyRelation", unfollowed := true, recurses := true, named := ["internal/strconv.uint64pow10", "math/bits.deBruijn32tab", "math/bits.deBruijn64tab"], plainKeys := false, apart := false, laid := [("math/bits.deBruijn32tab", laid_math_bits_deBruijn32tab), ("math/bits.deBruijn64tab", laid_math_bits_deBruijn64tab), ("internal/strconv.uint64pow10", laid_internal_strconv_uint64pow10)], narrowed := true }
def FnExactTidyRelationUptoSaid : Prop := fnExactTidyRelationUptoRow.holds Tryd.pinned (OpenSpec.upto fnExactTidyRelationSpec)

/-- 'laws.FnExactIsEmpty', WHERE WHAT IT READS IS OF BULK AT MOST 1048576: true; the input reads as it did. -/
def fnExactIsEmptyUptoRow : OpenClaim := { program := "ytbkcllfgolmloaadoor", sum := "0bf34d3456bea952d29d505296137247675ad9498092fcf409911ad228222227", func := "loop.example/g01168/laws.FnExactIsEmpty", spec := "fnExactIsEmpty", unfollowed := true, recurses := true, named := ["internal/strconv.uint64pow10", "math/bits.deBruijn32tab", "math/bits.deBruijn64tab"], plainKeys := false, apart := false, laid := [("math/bits.deBruijn32tab", laid_math_bits_deBruijn32tab), ("math/bits.deBruijn64tab", laid_math_bits_deBruijn64tab), ("internal/strconv.uint64pow10", laid_internal_strconv_uint64pow10)], narrowed := true }
def FnExactIsEmptyUptoSaid : Prop := fnExactIsEmptyUptoRow.holds Tryd.pinned (OpenSpec.upto fnExactIsEmptySpec)

end Rows
end Go.Proofs.YtbkcllfgolmloaaDoor
