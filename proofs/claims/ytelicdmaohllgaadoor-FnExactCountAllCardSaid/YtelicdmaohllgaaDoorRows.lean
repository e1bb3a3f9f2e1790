/-
  NARROWER THAN 'FOR EVERY INPUT', by the rows' own cells (each row's printed sentence says how): FnExactValidWord: laid · FnExactColumnsOf: laid · FnExactRelationOf: laid · FnExactRelationText: laid · FnExactCountTuples: laid · FnExactIsFinite: laid · FnExactTuplesUpTo: laid · FnExactCountAll: laid · FnExactSomeOn: laid · FnExactReadRelation: laid · FnExactFreeVariables: laid.
  DERIVED. THE GIVEN ROWS OF THIS SEAT. 11 by the template 'for every input the law returns true; each argument reads behind the call as it read before'; 0 by the template 'total and deterministic' (their statements: YtelicdmaohllgaaDoorTotals.lean).
  GIVEN WITH THE SEED: the statements are not yours to turn. If you find one false, say at which input.
  Laid BY PROGRAM, IN A SANDBOX (cutbox-rows.mjs): the forced cells as the released guide's own fill.sh prints them over the translation f02343b271ca0aff… (all of the seat's roots in one cut). By AI agents, Wed Nov 11 2026. No macro, syntax, notation, axiom, sorry.
-/
import Derived.Test.YtelicdmaohllgaaDoorChecked
import GoSem.PinnedTables
import GoSem.Claim
import GoSem.ClaimJoined
import GoSem.ClaimMapViews
import Derived.JoinedTies
import Derived.KernelRfl
namespace Go.Proofs.YtelicdmaohllgaaDoor
/- THE CELL 'sum', in the pinned program and in every row, IS THE sha256 OF THE DUMP (.gsa) THAT YtelicdmaohllgaaDoorProg.lean LOADS. Nothing in Lean hashes anything: it is a label: what it is worth is what the hold of that sum in a sandbox is worth. -/
noncomputable def Tryd.pinned : Pinned := { name := "ytelicdmaohllgaadoor", sum := "f02343b271ca0aff0c433eee382aa511ed5942a0a297e157bc4afbee1b530444", checked := Tryd.checked }
namespace Rows
def none {H : Type} : Left H := { results := [], args := [] }

/- WHAT THE LISTED PACKAGE-LEVEL VARIABLES READ AS WHEN THE CALL BEGINS. Each datum BY PROGRAM (the guide's laid-datum.mjs) off the statement by which the dump's own 'gosem.cut.vars' lays the variable. In a bare row this is a premise. The card (YtelicdmaohllgaaDoorCards.lean) ties it to the program's text. -/
def laid_unicode_utf8_acceptRanges {H : Type} : DataW H := .agg [.agg [.lit (.int .u8 128), .lit (.int .u8 191)], .agg [.lit (.int .u8 160), .lit (.int .u8 191)], .agg [.lit (.int .u8 128), .lit (.int .u8 159)], .agg [.lit (.int .u8 144), .lit (.int .u8 191)], .agg [.lit (.int .u8 128), .lit (.int .u8 143)], .agg [.lit (.int .u8 0), .lit (.int .u8 0)], .agg [.lit (.int .u8 0), .lit (.int .u8 0)], .agg [.lit (.int .u8 0), .lit (.int .u8 0)], .agg [.lit (.int .u8 0), .lit (.int .u8 0)], .agg [.lit (.int .u8 0), .lit (.int .u8 0)], .agg [.lit (.int .u8 0), .lit (.int .u8 0)], .agg [.lit (.int .u8 0), .lit (.int .u8 0)], .agg [.lit (.int .u8 0), .lit (.int .u8 0)], .agg [.lit (.int .u8 0), .lit (.int .u8 0)], .agg [.lit (.int .u8 0), .lit (.int .u8 0)], .agg [.lit (.int .u8 0), .lit (.int .u8 0)]]
/-- One of Go's own tables, pinned by name: the form's constant. -/
def laid_unicode_utf8_first : DataW Unit := Go.Pinned.utf8First
def laid_math_bits_deBruijn32tab {H : Type} : DataW H := .agg [.lit (.int .u8 0), .lit (.int .u8 1), .lit (.int .u8 28), .lit (.int .u8 2), .lit (.int .u8 29), .lit (.int .u8 14), .lit (.int .u8 24), .lit (.int .u8 3), .lit (.int .u8 30), .lit (.int .u8 22), .lit (.int .u8 20), .lit (.int .u8 15), .lit (.int .u8 25), .lit (.int .u8 17), .lit (.int .u8 4), .lit (.int .u8 8), .lit (.int .u8 31), .lit (.int .u8 27), .lit (.int .u8 13), .lit (.int .u8 23), .lit (.int .u8 21), .lit (.int .u8 19), .lit (.int .u8 16), .lit (.int .u8 7), .lit (.int .u8 26), .lit (.int .u8 12), .lit (.int .u8 18), .lit (.int .u8 6), .lit (.int .u8 11), .lit (.int .u8 5), .lit (.int .u8 10), .lit (.int .u8 9)]
def laid_math_bits_deBruijn64tab {H : Type} : DataW H := .agg [.lit (.int .u8 0), .lit (.int .u8 1), .lit (.int .u8 56), .lit (.int .u8 2), .lit (.int .u8 57), .lit (.int .u8 49), .lit (.int .u8 28), .lit (.int .u8 3), .lit (.int .u8 61), .lit (.int .u8 58), .lit (.int .u8 42), .lit (.int .u8 50), .lit (.int .u8 38), .lit (.int .u8 29), .lit (.int .u8 17), .lit (.int .u8 4), .lit (.int .u8 62), .lit (.int .u8 47), .lit (.int .u8 59), .lit (.int .u8 36), .lit (.int .u8 45), .lit (.int .u8 43), .lit (.int .u8 51), .lit (.int .u8 22), .lit (.int .u8 53), .lit (.int .u8 39), .lit (.int .u8 33), .lit (.int .u8 30), .lit (.int .u8 24), .lit (.int .u8 18), .lit (.int .u8 12), .lit (.int .u8 5), .lit (.int .u8 63), .lit (.int .u8 55), .lit (.int .u8 48), .lit (.int .u8 27), .lit (.int .u8 60), .lit (.int .u8 41), .lit (.int .u8 37), .lit (.int .u8 16), .lit (.int .u8 46), .lit (.int .u8 35), .lit (.int .u8 44), .lit (.int .u8 21), .lit (.int .u8 52), .lit (.int .u8 32), .lit (.int .u8 23), .lit (.int .u8 11), .lit (.int .u8 54), .lit (.int .u8 26), .lit (.int .u8 40), .lit (.int .u8 15), .lit (.int .u8 34), .lit (.int .u8 20), .lit (.int .u8 31), .lit (.int .u8 10), .lit (.int .u8 25), .lit (.int .u8 14), .lit (.int .u8 19), .lit (.int .u8 9), .lit (.int .u8 13), .lit (.int .u8 8), .lit (.int .u8 7), .lit (.int .u8 6)]
def laid_internal_strconv_uint64pow10 {H : Type} : DataW H := .agg [.lit (.int .u64 1), .lit (.int .u64 10), .lit (.int .u64 100), .lit (.int .u64 1000), .lit (.int .u64 10000), .lit (.int .u64 100000), .lit (.int .u64 1000000), .lit (.int .u64 10000000), .lit (.int .u64 100000000), .lit (.int .u64 1000000000), .lit (.int .u64 10000000000), .lit (.int .u64 100000000000), .lit (.int .u64 1000000000000), .lit (.int .u64 10000000000000), .lit (.int .u64 100000000000000), .lit (.int .u64 1000000000000000), .lit (.int .u64 10000000000000000), .lit (.int .u64 100000000000000000), .lit (.int .u64 1000000000000000000), .lit (.int .u64 10000000000000000000)]
def laid_strconv_ErrRange {H : Type} : DataW H := .iface "*errors.errorString" (.ptr (.agg [.lit (.string [118, 97, 108, 117, 101, 32, 111, 117, 116, 32, 111, 102, 32, 114, 97, 110, 103, 101])]))
def laid_strconv_ErrSyntax {H : Type} : DataW H := .iface "*errors.errorString" (.ptr (.agg [.lit (.string [105, 110, 118, 97, 108, 105, 100, 32, 115, 121, 110, 116, 97, 120])]))

/-- 'laws.FnExactValidWord': WHATEVER THE INPUT: true; the input reads as it did. -/
def fnExactValidWordSpec : ChangeSpec := { name := "fnExactValidWord", fn := fun _ => fun
  | [d] => { results := [.lit (.bool true)], args := [d] }
  | _ => none }
def fnExactValidWordRow : OpenClaim := { program := "ytelicdmaohllgaadoor", sum := "f02343b271ca0aff0c433eee382aa511ed5942a0a297e157bc4afbee1b530444", func := "loop.example/g01168/laws.FnExactValidWord", spec := "fnExactValidWord", inPlace := ["internal/bytealg.IndexByteString", "internal/bytealg.IndexString"], named := ["unicode/utf8.first", "unicode/utf8.acceptRanges", "internal/bytealg.MaxLen"], plainKeys := false, apart := false, laid := [("unicode/utf8.acceptRanges", laid_unicode_utf8_acceptRanges), ("unicode/utf8.first", laid_unicode_utf8_first)] }
def FnExactValidWordSaid : Prop := fnExactValidWordRow.holds Tryd.pinned (OpenSpec.ofChange fnExactValidWordSpec)

/-- ITS FALSE NEIGHBOUR: 'it returns false'. Refute it at one input. -/
def fnExactValidWordWrong : ChangeSpec := { name := "fnExactValidWord", fn := fun _ => fun
  | [d] => { results := [.lit (.bool false)], args := [d] }
  | _ => none }
def FnExactValidWordWrongFalsely : Prop := fnExactValidWordRow.holds Tryd.pinned (OpenSpec.ofChange fnExactValidWordWrong)

/-- 'laws.FnExactColumnsOf': WHATEVER THE INPUT: true; the input reads as it did. -/
def fnExactColumnsOfSpec : ChangeSpec := { name := "fnExactColumnsOf", fn := fun _ => fun
  | [d] => { results := [.lit (.bool true)], args := [d] }
  | _ => none }
def fnExactColumnsOfRow : OpenClaim := { program := "ytelicdmaohllgaadoor", sum := "f02343b271ca0aff0c433eee382aa511ed5942a0a297e157bc4afbee1b530444", func := "loop.example/g01168/laws.FnExactColumnsOf", spec := "fnExactColumnsOf", inPlace := ["internal/bytealg.IndexByteString", "internal/bytealg.IndexString"], named := ["unicode/utf8.first", "unicode/utf8.acceptRanges", "internal/bytealg.MaxLen"], plainKeys := false, apart := false, laid := [("unicode/utf8.acceptRanges", laid_unicode_utf8_acceptRanges), ("unicode/utf8.first", laid_unicode_utf8_first)] }
def FnExactColumnsOfSaid : Prop := fnExactColumnsOfRow.holds Tryd.pinned (OpenSpec.ofChange fnExactColumnsOfSpec)

/-- ITS FALSE NEIGHBOUR: 'it returns false'. Refute it at one input. -/
def fnExactColumnsOfWrong : ChangeSpec := { name := "fnExactColumnsOf", fn := fun _ => fun
  | [d] => { results := [.lit (.bool false)], args := [d] }
  | _ => none }
def FnExactColumnsOfWrongFalsely : Prop := fnExactColumnsOfRow.holds Tryd.pinned (OpenSpec.ofChange fnExactColumnsOfWrong)

/-- 'laws.FnExactRelationOf': WHATEVER THE INPUT: true; the input reads as it did. -/
def fnExactRelationOfSpec : ChangeSpec := { name := "fnExactRelationOf", fn := fun _ => fun
  | [d1, d2] => { results := [.lit (.bool true)], args := [d1, d2] }
  | _ => none }
def fnExactRelationOfRow : OpenClaim := { program := "ytelicdmaohllgaadoor", sum := "f02343b271ca0aff0c433eee382aa511ed5942a0a297e157bc4afbee1b530444", func := "loop.example/g01168/laws.FnExactRelationOf", spec := "fnExactRelationOf", inPlace := ["internal/bytealg.IndexByteString", "internal/bytealg.IndexString"], unfollowed := true, recurses := true, named := ["unicode/utf8.first", "unicode/utf8.acceptRanges", "internal/strconv.uint64pow10", "math/bits.deBruijn32tab", "math/bits.deBruijn64tab", "internal/bytealg.MaxLen"], plainKeys := false, apart := false, laid := [("math/bits.deBruijn32tab", laid_math_bits_deBruijn32tab), ("math/bits.deBruijn64tab", laid_math_bits_deBruijn64tab), ("internal/strconv.uint64pow10", laid_internal_strconv_uint64pow10), ("unicode/utf8.acceptRanges", laid_unicode_utf8_acceptRanges), ("unicode/utf8.first", laid_unicode_utf8_first)] }
def FnExactRelationOfSaid : Prop := fnExactRelationOfRow.holds Tryd.pinned (OpenSpec.ofChange fnExactRelationOfSpec)

/-- ITS FALSE NEIGHBOUR: 'it returns false'. Refute it at one input. -/
def fnExactRelationOfWrong : ChangeSpec := { name := "fnExactRelationOf", fn := fun _ => fun
  | [d1, d2] => { results := [.lit (.bool false)], args := [d1, d2] }
  | _ => none }
def FnExactRelationOfWrongFalsely : Prop := fnExactRelationOfRow.holds Tryd.pinned (OpenSpec.ofChange fnExactRelationOfWrong)

/-- 'laws.FnExactRelationText': WHATEVER THE INPUT: true; the input reads as it did. -/
def fnExactRelationTextSpec : ChangeSpec := { name := "fnExactRelationText", fn := fun _ => fun
  | [d] => { results := [.lit (.bool true)], args := [d] }
  | _ => none }
def fnExactRelationTextRow : OpenClaim := { program := "ytelicdmaohllgaadoor", sum := "f02343b271ca0aff0c433eee382aa511ed5942a0a297e157bc4afbee1b530444", func := "loop.example/g01168/laws.FnExactRelationText", spec := "fnExactRelationText", inPlace := ["internal/abi.NoEscape"], recurses := true, named := ["internal/strconv.uint64pow10", "math/bits.deBruijn32tab", "math/bits.deBruijn64tab"], plainKeys := false, apart := false, laid := [("math/bits.deBruijn32tab", laid_math_bits_deBruijn32tab), ("math/bits.deBruijn64tab", laid_math_bits_deBruijn64tab), ("internal/strconv.uint64pow10", laid_internal_strconv_uint64pow10)] }
def FnExactRelationTextSaid : Prop := fnExactRelationTextRow.holds Tryd.pinned (OpenSpec.ofChange fnExactRelationTextSpec)

/-- ITS FALSE NEIGHBOUR: 'it returns false'. Refute it at one input. -/
def fnExactRelationTextWrong : ChangeSpec := { name := "fnExactRelationText", fn := fun _ => fun
  | [d] => { results := [.lit (.bool false)], args := [d] }
  | _ => none }
def FnExactRelationTextWrongFalsely : Prop := fnExactRelationTextRow.holds Tryd.pinned (OpenSpec.ofChange fnExactRelationTextWrong)

/-- 'laws.FnExactCountTuples': WHATEVER THE INPUT: true; the input reads as it did. -/
def fnExactCountTuplesSpec : ChangeSpec := { name := "fnExactCountTuples", fn := fun _ => fun
  | [d1, d2] => { results := [.lit (.bool true)], args := [d1, d2] }
  | _ => none }
def fnExactCountTuplesRow : OpenClaim := { program := "ytelicdmaohllgaadoor", sum := "f02343b271ca0aff0c433eee382aa511ed5942a0a297e157bc4afbee1b530444", func := "loop.example/g01168/laws.FnExactCountTuples", spec := "fnExactCountTuples", unfollowed := true, recurses := true, named := ["internal/strconv.uint64pow10", "math/bits.deBruijn32tab", "math/bits.deBruijn64tab"], plainKeys := false, apart := false, laid := [("math/bits.deBruijn32tab", laid_math_bits_deBruijn32tab), ("math/bits.deBruijn64tab", laid_math_bits_deBruijn64tab), ("internal/strconv.uint64pow10", laid_internal_strconv_uint64pow10)] }
def FnExactCountTuplesSaid : Prop := fnExactCountTuplesRow.holds Tryd.pinned (OpenSpec.ofChange fnExactCountTuplesSpec)

/-- ITS FALSE NEIGHBOUR: 'it returns false'. Refute it at one input. -/
def fnExactCountTuplesWrong : ChangeSpec := { name := "fnExactCountTuples", fn := fun _ => fun
  | [d1, d2] => { results := [.lit (.bool false)], args := [d1, d2] }
  | _ => none }
def FnExactCountTuplesWrongFalsely : Prop := fnExactCountTuplesRow.holds Tryd.pinned (OpenSpec.ofChange fnExactCountTuplesWrong)

/-- 'laws.FnExactIsFinite': WHATEVER THE INPUT: true; the input reads as it did. -/
def fnExactIsFiniteSpec : ChangeSpec := { name := "fnExactIsFinite", fn := fun _ => fun
  | [d] => { results := [.lit (.bool true)], args := [d] }
  | _ => none }
def fnExactIsFiniteRow : OpenClaim := { program := "ytelicdmaohllgaadoor", sum := "f02343b271ca0aff0c433eee382aa511ed5942a0a297e157bc4afbee1b530444", func := "loop.example/g01168/laws.FnExactIsFinite", spec := "fnExactIsFinite", unfollowed := true, recurses := true, named := ["internal/strconv.uint64pow10", "math/bits.deBruijn32tab", "math/bits.deBruijn64tab"], plainKeys := false, apart := false, laid := [("math/bits.deBruijn32tab", laid_math_bits_deBruijn32tab), ("math/bits.deBruijn64tab", laid_math_bits_deBruijn64tab), ("internal/strconv.uint64pow10", laid_internal_strconv_uint64pow10)] }
def FnExactIsFiniteSaid : Prop := fnExactIsFiniteRow.holds Tryd.pinned (OpenSpec.ofChange fnExactIsFiniteSpec)

/-- ITS FALSE NEIGHBOUR: 'it returns false'. Refute it at one input. -/
def fnExactIsFiniteWrong : ChangeSpec := { name := "fnExactIsFinite", fn := fun _ => fun
  | [d] => { results := [.lit (.bool false)], args := [d] }
  | _ => none }
def FnExactIsFiniteWrongFalsely : Prop := fnExactIsFiniteRow.holds Tryd.pinned (OpenSpec.ofChange fnExactIsFiniteWrong)

/-- 'laws.FnExactTuplesUpTo': WHATEVER THE INPUT: true; the input reads as it did. -/
def fnExactTuplesUpToSpec : ChangeSpec := { name := "fnExactTuplesUpTo", fn := fun _ => fun
  | [d1, d2] => { results := [.lit (.bool true)], args := [d1, d2] }
  | _ => none }
def fnExactTuplesUpToRow : OpenClaim := { program := "ytelicdmaohllgaadoor", sum := "f02343b271ca0aff0c433eee382aa511ed5942a0a297e157bc4afbee1b530444", func := "loop.example/g01168/laws.FnExactTuplesUpTo", spec := "fnExactTuplesUpTo", unfollowed := true, recurses := true, named := ["internal/strconv.uint64pow10", "math/bits.deBruijn32tab", "math/bits.deBruijn64tab"], plainKeys := false, apart := false, laid := [("math/bits.deBruijn32tab", laid_math_bits_deBruijn32tab), ("math/bits.deBruijn64tab", laid_math_bits_deBruijn64tab), ("internal/strconv.uint64pow10", laid_internal_strconv_uint64pow10)] }
def FnExactTuplesUpToSaid : Prop := fnExactTuplesUpToRow.holds Tryd.pinned (OpenSpec.ofChange fnExactTuplesUpToSpec)

/-- ITS FALSE NEIGHBOUR: 'it returns false'. Refute it at one input. -/
def fnExactTuplesUpToWrong : ChangeSpec := { name := "fnExactTuplesUpTo", fn := fun _ => fun
  | [d1, d2] => { results := [.lit (.bool false)], args := [d1, d2] }
  | _ => none }
def FnExactTuplesUpToWrongFalsely : Prop := fnExactTuplesUpToRow.holds Tryd.pinned (OpenSpec.ofChange fnExactTuplesUpToWrong)

/-- 'laws.FnExactCountAll': WHATEVER THE INPUT: true; the input reads as it did. -/
def fnExactCountAllSpec : ChangeSpec := { name := "fnExactCountAll", fn := fun _ => fun
  | [d] => { results := [.lit (.bool true)], args := [d] }
  | _ => none }
def fnExactCountAllRow : OpenClaim := { program := "ytelicdmaohllgaadoor", sum := "f02343b271ca0aff0c433eee382aa511ed5942a0a297e157bc4afbee1b530444", func := "loop.example/g01168/laws.FnExactCountAll", spec := "fnExactCountAll", unfollowed := true, recurses := true, named := ["internal/strconv.uint64pow10", "math/bits.deBruijn32tab", "math/bits.deBruijn64tab"], plainKeys := false, apart := false, laid := [("math/bits.deBruijn32tab", laid_math_bits_deBruijn32tab), ("math/bits.deBruijn64tab", laid_math_bits_deBruijn64tab), ("internal/strconv.uint64pow10", laid_internal_strconv_uint64pow10)] }
def FnExactCountAllSaid : Prop := fnExactCountAllRow.holds Tryd.pinned (OpenSpec.ofChange fnExactCountAllSpec)

/-- ITS FALSE NEIGHBOUR: 'it returns false'. Refute it at one input. -/
def fnExactCountAllWrong : ChangeSpec := { name := "fnExactCountAll", fn := fun _ => fun
  | [d] => { results := [.lit (.bool false)], args := [d] }
  | _ => none }
def FnExactCountAllWrongFalsely : Prop := fnExactCountAllRow.holds Tryd.pinned (OpenSpec.ofChange fnExactCountAllWrong)

/-- 'laws.FnExactSomeOn': WHATEVER THE INPUT: true; the input reads as it did. -/
def fnExactSomeOnSpec : ChangeSpec := { name := "fnExactSomeOn", fn := fun _ => fun
  | [d1, d2] => { results := [.lit (.bool true)], args := [d1, d2] }
  | _ => none }
def fnExactSomeOnRow : OpenClaim := { program := "ytelicdmaohllgaadoor", sum := "f02343b271ca0aff0c433eee382aa511ed5942a0a297e157bc4afbee1b530444", func := "loop.example/g01168/laws.FnExactSomeOn", spec := "fnExactSomeOn", inPlace := ["slices.overlaps[int]"], unfollowed := true, recurses := true, named := ["internal/strconv.uint64pow10", "math/bits.deBruijn32tab", "math/bits.deBruijn64tab"], plainKeys := false, apart := false, laid := [("math/bits.deBruijn32tab", laid_math_bits_deBruijn32tab), ("math/bits.deBruijn64tab", laid_math_bits_deBruijn64tab), ("internal/strconv.uint64pow10", laid_internal_strconv_uint64pow10)] }
def FnExactSomeOnSaid : Prop := fnExactSomeOnRow.holds Tryd.pinned (OpenSpec.ofChange fnExactSomeOnSpec)

/-- ITS FALSE NEIGHBOUR: 'it returns false'. Refute it at one input. -/
def fnExactSomeOnWrong : ChangeSpec := { name := "fnExactSomeOn", fn := fun _ => fun
  | [d1, d2] => { results := [.lit (.bool false)], args := [d1, d2] }
  | _ => none }
def FnExactSomeOnWrongFalsely : Prop := fnExactSomeOnRow.holds Tryd.pinned (OpenSpec.ofChange fnExactSomeOnWrong)

/-- 'laws.FnExactReadRelation': WHATEVER THE INPUT: true; the input reads as it did. -/
def fnExactReadRelationSpec : ChangeSpec := { name := "fnExactReadRelation", fn := fun _ => fun
  | [d] => { results := [.lit (.bool true)], args := [d] }
  | _ => none }
def fnExactReadRelationRow : OpenClaim := { program := "ytelicdmaohllgaadoor", sum := "f02343b271ca0aff0c433eee382aa511ed5942a0a297e157bc4afbee1b530444", func := "loop.example/g01168/laws.FnExactReadRelation", spec := "fnExactReadRelation", inPlace := ["internal/bytealg.CountString", "internal/bytealg.IndexByteString", "internal/bytealg.IndexString", "internal/abi.NoEscape"], named := ["unicode/utf8.first", "unicode/utf8.acceptRanges", "internal/bytealg.MaxLen", "strconv.ErrSyntax", "strconv.ErrRange", "internal/strconv.uint64pow10", "math/bits.deBruijn32tab", "math/bits.deBruijn64tab"], plainKeys := false, apart := false, laid := [("math/bits.deBruijn32tab", laid_math_bits_deBruijn32tab), ("math/bits.deBruijn64tab", laid_math_bits_deBruijn64tab), ("internal/strconv.uint64pow10", laid_internal_strconv_uint64pow10), ("unicode/utf8.acceptRanges", laid_unicode_utf8_acceptRanges), ("strconv.ErrRange", laid_strconv_ErrRange), ("strconv.ErrSyntax", laid_strconv_ErrSyntax), ("unicode/utf8.first", laid_unicode_utf8_first)] }
def FnExactReadRelationSaid : Prop := fnExactReadRelationRow.holds Tryd.pinned (OpenSpec.ofChange fnExactReadRelationSpec)

/-- ITS FALSE NEIGHBOUR: 'it returns false'. Refute it at one input. -/
def fnExactReadRelationWrong : ChangeSpec := { name := "fnExactReadRelation", fn := fun _ => fun
  | [d] => { results := [.lit (.bool false)], args := [d] }
  | _ => none }
def FnExactReadRelationWrongFalsely : Prop := fnExactReadRelationRow.holds Tryd.pinned (OpenSpec.ofChange fnExactReadRelationWrong)

/-- 'laws.FnExactFreeVariables': WHATEVER THE INPUT: true; the input reads as it did. -/
def fnExactFreeVariablesSpec : ChangeSpec := { name := "fnExactFreeVariables", fn := fun _ => fun
  | [d] => { results := [.lit (.bool true)], args := [d] }
  | _ => none }
def fnExactFreeVariablesRow : OpenClaim := { program := "ytelicdmaohllgaadoor", sum := "f02343b271ca0aff0c433eee382aa511ed5942a0a297e157bc4afbee1b530444", func := "loop.example/g01168/laws.FnExactFreeVariables", spec := "fnExactFreeVariables", inPlace := ["internal/bytealg.IndexByteString", "internal/bytealg.IndexString", "internal/bytealg.CountString", "internal/abi.NoEscape", "internal/bytealg.MakeNoZero"], recurses := true, named := ["internal/bytealg.MaxLen", "unicode/utf8.first", "unicode/utf8.acceptRanges"], plainKeys := false, apart := false, laid := [("unicode/utf8.acceptRanges", laid_unicode_utf8_acceptRanges), ("unicode/utf8.first", laid_unicode_utf8_first)] }
def FnExactFreeVariablesSaid : Prop := fnExactFreeVariablesRow.holds Tryd.pinned (OpenSpec.ofChange fnExactFreeVariablesSpec)

/-- ITS FALSE NEIGHBOUR: 'it returns false'. Refute it at one input. -/
def fnExactFreeVariablesWrong : ChangeSpec := { name := "fnExactFreeVariables", fn := fun _ => fun
  | [d] => { results := [.lit (.bool false)], args := [d] }
  | _ => none }
def FnExactFreeVariablesWrongFalsely : Prop := fnExactFreeVariablesRow.holds Tryd.pinned (OpenSpec.ofChange fnExactFreeVariablesWrong)

/- THE SECOND FORM. 'bulk': how many values and letters a reading holds, each counted each time it is reached (what is shared counts as often as it is met; a slice's spare places count too). A statement '..UptoSaid' is the law's where the arguments, and the package variables that the reading takes, are together of bulk at most 1048576: NARROWER than '..Said'. Prove '..Said' where nothing that the law and all that it calls make is longer than what came in: it says more and counts as full. Else prove '..UptoSaid'. A law counts once. -/
mutual
def uptoBulk {H : Type} : DataW H → Nat
  | .lit (.string bytes) => bytes.length + 1
  | .lit _ => 1
  | .nil => 1
  | .ptr d => uptoBulk d + 1
  | .slice elems spare => uptoBulkAll elems + uptoBulkAll spare + 1
  | .agg parts => uptoBulkAll parts + 1
  | .iface _ d => uptoBulk d + 1
  | .map entries => uptoBulkEntries entries + 1
  | .held _ => 1
def uptoBulkAll {H : Type} : List (DataW H) → Nat
  | [] => 0
  | d :: r => uptoBulk d + uptoBulkAll r
def uptoBulkEntries {H : Type} : List (Lit × DataW H) → Nat
  | [] => 0
  | x :: r => uptoBulkEntry x + uptoBulkEntries r
def uptoBulkEntry {H : Type} : Lit × DataW H → Nat
  | (.string bytes, d) => bytes.length + uptoBulk d + 1
  | (_, d) => uptoBulk d + 1
 end
def uptoSmall : (H : Type) → List (DataW H) → Bool := fun _ ds => decide (uptoBulkAll ds ≤ 1048576)
def OpenSpec.upto (s : _root_.Go.ChangeSpec) : _root_.Go.OpenSpec := { _root_.Go.OpenSpec.ofChange s with cond := some uptoSmall }

/-- 'laws.FnExactValidWord', WHERE WHAT IT READS IS OF BULK AT MOST 1048576: true; the input reads as it did. -/
def fnExactValidWordUptoRow : OpenClaim := { program := "ytelicdmaohllgaadoor", sum := "f02343b271ca0aff0c433eee382aa511ed5942a0a297e157bc4afbee1b530444", func := "loop.example/g01168/laws.FnExactValidWord", spec := "fnExactValidWord", inPlace := ["internal/bytealg.IndexByteString", "internal/bytealg.IndexString"], named := ["unicode/utf8.first", "unicode/utf8.acceptRanges", "internal/bytealg.MaxLen"], plainKeys := false, apart := false, laid := [("unicode/utf8.acceptRanges", laid_unicode_utf8_acceptRanges), ("unicode/utf8.first", laid_unicode_utf8_first)], narrowed := true }
def FnExactValidWordUptoSaid : Prop := fnExactValidWordUptoRow.holds Tryd.pinned (OpenSpec.upto fnExactValidWordSpec)

/-- 'laws.FnExactColumnsOf', WHERE WHAT IT READS IS OF BULK AT MOST 1048576: true; the input reads as it did. -/
def fnExactColumnsOfUptoRow : OpenClaim := { program := "ytelicdmaohllgaadoor", sum := "f02343b271ca0aff0c433eee382aa511ed5942a0a297e157bc4afbee1b530444", func := "loop.example/g01168/laws.FnExactColumnsOf", spec := "fnExactColumnsOf", inPlace := ["internal/bytealg.IndexByteString", "internal/bytealg.IndexString"], named := ["unicode/utf8.first", "unicode/utf8.acceptRanges", "internal/bytealg.MaxLen"], plainKeys := false, apart := false, laid := [("unicode/utf8.acceptRanges", laid_unicode_utf8_acceptRanges), ("unicode/utf8.first", laid_unicode_utf8_first)], narrowed := true }
def FnExactColumnsOfUptoSaid : Prop := fnExactColumnsOfUptoRow.holds Tryd.pinned (OpenSpec.upto fnExactColumnsOfSpec)

/-- 'laws.FnExactRelationOf', WHERE WHAT IT READS IS OF BULK AT MOST 1048576: true; the input reads as it did. -/
def fnExactRelationOfUptoRow : OpenClaim := { program := "ytelicdmaohllgaadoor", sum := "f02343b271ca0aff0c433eee382aa511ed5942a0a297e157bc4afbee1b530444", func := "loop.example/g01168/laws.FnExactRelationOf", spec := "fnExactRelationOf", inPlace := ["internal/bytealg.IndexByteString", "internal/bytealg.IndexString"], unfollowed := true, recurses := true, named := ["unicode/utf8.first", "unicode/utf8.acceptRanges", "internal/strconv.uint64pow10", "math/bits.deBruijn32tab", "math/bits.deBruijn64tab", "internal/bytealg.MaxLen"], plainKeys := false, apart := false, laid := [("math/bits.deBruijn32tab", laid_math_bits_deBruijn32tab), ("math/bits.deBruijn64tab", laid_math_bits_deBruijn64tab), ("internal/strconv.uint64pow10", laid_internal_strconv_uint64pow10), ("unicode/utf8.acceptRanges", laid_unicode_utf8_acceptRanges), ("unicode/utf8.first", laid_unicode_utf8_first)], narrowed := true }
def FnExactRelationOfUptoSaid : Prop := fnExactRelationOfUptoRow.holds Tryd.pinned (OpenSpec.upto fnExactRelationOfSpec)

/-- 'laws.FnExactRelationText', WHERE WHAT IT READS IS OF BULK AT MOST 1048576: true; the input reads as it did. -/
def fnExactRelationTextUptoRow : OpenClaim := { program := "ytelicdmaohllgaadoor", sum := "f02343b271ca0aff0c433eee382aa511ed5942a0a297e157bc4afbee1b530444", func := "loop.example/g01168/laws.FnExactRelationText", spec := "fnExactRelationText", inPlace := ["internal/abi.NoEscape"], recurses := true, named := ["internal/strconv.uint64pow10", "math/bits.deBruijn32tab", "math/bits.deBruijn64tab"], plainKeys := false, apart := false, laid := [("math/bits.deBruijn32tab", laid_math_bits_deBruijn32tab), ("math/bits.deBruijn64tab", laid_math_bits_deBruijn64tab), ("internal/strconv.uint64pow10", laid_internal_strconv_uint64pow10)], narrowed := true }
def FnExactRelationTextUptoSaid : Prop := fnExactRelationTextUptoRow.holds Tryd.pinned (OpenSpec.upto fnExactRelationTextSpec)

/-- 'laws.FnExactCountTuples', WHERE WHAT IT READS IS OF BULK AT MOST 1048576: true; the input reads as it did. -/
def fnExactCountTuplesUptoRow : OpenClaim := { program := "ytelicdmaohllgaadoor", sum := "f02343b271ca0aff0c433eee382aa511ed5942a0a297e157bc4afbee1b530444", func := "loop.example/g01168/laws.FnExactCountTuples", spec := "fnExactCountTuples", unfollowed := true, recurses := true, named := ["internal/strconv.uint64pow10", "math/bits.deBruijn32tab", "math/bits.deBruijn64tab"], plainKeys := false, apart := false, laid := [("math/bits.deBruijn32tab", laid_math_bits_deBruijn32tab), ("math/bits.deBruijn64tab", laid_math_bits_deBruijn64tab), ("internal/strconv.uint64pow10", laid_internal_strconv_uint64pow10)], narrowed := true }
def FnExactCountTuplesUptoSaid : Prop := fnExactCountTuplesUptoRow.holds Tryd.pinned (OpenSpec.upto fnExactCountTuplesSpec)

/-- 'laws.FnExactIsFinite', WHERE WHAT IT READS IS OF BULK AT MOST 1048576: true; the input reads as it did. -/
def fnExactIsFiniteUptoRow : OpenClaim := { program := "ytelicdmaohllgaadoor", sum := "f02343b271ca0aff0c433eee382aa511ed5942a0a297e157bc4afbee1b530444", func := "loop.example/g01168/laws.FnExactIsFinite", spec := "fnExactIsFinite", unfollowed := true, recurses := true, named := ["internal/strconv.uint64pow10", "math/bits.deBruijn32tab", "math/bits.deBruijn64tab"], plainKeys := false, apart := false, laid := [("math/bits.deBruijn32tab", laid_math_bits_deBruijn32tab), ("math/bits.deBruijn64tab", laid_math_bits_deBruijn64tab), ("internal/strconv.uint64pow10", laid_internal_strconv_uint64pow10)], narrowed := true }
def FnExactIsFiniteUptoSaid : Prop := fnExactIsFiniteUptoRow.holds Tryd.pinned (OpenSpec.upto fnExactIsFiniteSpec)

/-- 'laws.FnExactTuplesUpTo', WHERE WHAT IT READS IS OF BULK AT MOST 1048576: true; the input reads as it did. -/
def fnExactTuplesUpToUptoRow : OpenClaim := { program := "ytelicdmaohllgaadoor", sum := "f02343b271ca0aff0c433eee382aa511ed5942a0a297e157bc4afbee1b530444", func := "loop.example/g01168/laws.FnExactTuplesUpTo", spec := "fnExactTuplesUpTo", unfollowed := true, recurses := true, named := ["internal/strconv.uint64pow10", "math/bits.deBruijn32tab", "math/bits.deBruijn64tab"], plainKeys := false, apart := false, laid := [("math/bits.deBruijn32tab", laid_math_bits_deBruijn32tab), ("math/bits.deBruijn64tab", laid_math_bits_deBruijn64tab), ("internal/strconv.uint64pow10", laid_internal_strconv_uint64pow10)], narrowed := true }
def FnExactTuplesUpToUptoSaid : Prop := fnExactTuplesUpToUptoRow.holds Tryd.pinned (OpenSpec.upto fnExactTuplesUpToSpec)

/-- 'laws.FnExactCountAll', WHERE WHAT IT READS IS OF BULK AT MOST 1048576: true; the input reads as it did. -/
def fnExactCountAllUptoRow : OpenClaim := { program := "ytelicdmaohllgaadoor", sum := "f02343b271ca0aff0c433eee382aa511ed5942a0a297e157bc4afbee1b530444", func := "loop.example/g01168/laws.FnExactCountAll", spec := "fnExactCountAll", unfollowed := true, recurses := true, named := ["internal/strconv.uint64pow10", "math/bits.deBruijn32tab", "math/bits.deBruijn64tab"], plainKeys := false, apart := false, laid := [("math/bits.deBruijn32tab", laid_math_bits_deBruijn32tab), ("math/bits.deBruijn64tab", laid_math_bits_deBruijn64tab), ("internal/strconv.uint64pow10", laid_internal_strconv_uint64pow10)], narrowed := true }
def FnExactCountAllUptoSaid : Prop := fnExactCountAllUptoRow.holds Tryd.pinned (OpenSpec.upto fnExactCountAllSpec)

/-- 'laws.FnExactSomeOn', WHERE WHAT IT READS IS OF BULK AT MOST 1048576: true; the input reads as it did. -/
def fnExactSomeOnUptoRow : OpenClaim := { program := "ytelicdmaohllgaadoor", sum := "f02343b271ca0aff0c433eee382aa511ed5942a0a297e157bc4afbee1b530444", func := "loop.example/g01168/laws.FnExactSomeOn", spec := "fnExactSomeOn", inPlace := ["slices.overlaps[int]"], unfollowed := true, recurses := true, named := ["internal/strconv.uint64pow10", "math/bits.deBruijn32tab", "math/bits.deBruijn64tab"], plainKeys := false, apart := false, laid := [("math/bits.deBruijn32tab", laid_math_bits_deBruijn32tab), ("math/bits.deBruijn64tab", laid_math_bits_deBruijn64tab), ("internal/strconv.uint64pow10", laid_internal_strconv_uint64pow10)], narrowed := true }
def FnExactSomeOnUptoSaid : Prop := fnExactSomeOnUptoRow.holds Tryd.pinned (OpenSpec.upto fnExactSomeOnSpec)

/-- 'laws.FnExactReadRelation', WHERE WHAT IT READS IS OF BULK AT MOST 1048576: true; the input reads as it did. -/
def fnExactReadRelationUptoRow : OpenClaim := { program := "ytelicdmaohllgaadoor", sum := "f02343b271ca0aff0c433eee382aa511ed5942a0a297e157bc4afbee1b530444", func := "loop.example/g01168/laws.FnExactReadRelation", spec := "fnExactReadRelation", inPlace := ["internal/bytealg.CountString", "internal/bytealg.IndexByteString", "internal/bytealg.IndexString", "internal/abi.NoEscape"], named := ["unicode/utf8.first", "unicode/utf8.acceptRanges", "internal/bytealg.MaxLen", "strconv.ErrSyntax", "strconv.ErrRange", "internal/strconv.uint64pow10", "math/bits.deBruijn32tab", "math/bits.deBruijn64tab"], plainKeys := false, apart := false, laid := [("math/bits.deBruijn32tab", laid_math_bits_deBruijn32tab), ("math/bits.deBruijn64tab", laid_math_bits_deBruijn64tab), ("internal/strconv.uint64pow10", laid_internal_strconv_uint64pow10), ("unicode/utf8.acceptRanges", laid_unicode_utf8_acceptRanges), ("strconv.ErrRange", laid_strconv_ErrRange), ("strconv.ErrSyntax", laid_strconv_ErrSyntax), ("unicode/utf8.first", laid_unicode_utf8_first)], narrowed := true }
def FnExactReadRelationUptoSaid : Prop := fnExactReadRelationUptoRow.holds Tryd.pinned (OpenSpec.upto fnExactReadRelationSpec)

/-- 'laws.FnExactFreeVariables', WHERE WHAT IT READS IS OF BULK AT MOST 1048576: true; the input reads as it did. -/
def fnExactFreeVariablesUptoRow : OpenClaim := { program := "ytelicdmaohllgaadoor", sum := "f02343b271ca0aff0c433eee382aa511ed5942a0a297e157bc4afbee1b530444", func := "loop.example/g01168/laws.FnExactFreeVariables", spec := "fnExactFreeVariables", inPlace := ["internal/bytealg.IndexByteString", "internal/bytealg.IndexString", "internal/bytealg.CountString", "internal/abi.NoEscape", "internal/bytealg.MakeNoZero"], recurses := true, named := ["internal/bytealg.MaxLen", "unicode/utf8.first", "unicode/utf8.acceptRanges"], plainKeys := false, apart := false, laid := [("unicode/utf8.acceptRanges", laid_unicode_utf8_acceptRanges), ("unicode/utf8.first", laid_unicode_utf8_first)], narrowed := true }
def FnExactFreeVariablesUptoSaid : Prop := fnExactFreeVariablesUptoRow.holds Tryd.pinned (OpenSpec.upto fnExactFreeVariablesSpec)

end Rows
end Go.Proofs.YtelicdmaohllgaaDoor
