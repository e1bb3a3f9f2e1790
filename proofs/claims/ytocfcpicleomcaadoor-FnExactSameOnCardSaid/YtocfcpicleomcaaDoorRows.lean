/-
  NARROWER THAN 'FOR EVERY INPUT', by the rows' own cells (each row's printed sentence says how): FnExactAreEqual: laid · FnExactOppositeRelation: laid · FnExactSameOn: laid · FnExactAddTape: laid · FnExactBothRelations: laid · FnExactEitherRelation: laid · FnExactWithoutRelation: laid · FnExactMoveTapes: laid · FnExactInverseRelation: laid · FnExactIsContained: laid · FnExactFirstTuple: laid · FnExactFirstUnlike: laid.
  DERIVED. THE GIVEN ROWS OF THIS SEAT. 12 by the template 'for every input the law returns true; each argument reads behind the call as it read before'; 0 by the template 'total and deterministic' (their statements: YtocfcpicleomcaaDoorTotals.lean).
  GIVEN WITH THE SEED: the statements are not yours to turn. If you find one false, say at which input.
  Laid BY PROGRAM, IN A SANDBOX (cutbox-rows.mjs): the forced cells as the released guide's own fill.sh prints them over the translation 4b45f471805516e7… (all of the seat's roots in one cut). By AI agents, Wed Nov 11 2026. No macro, syntax, notation, axiom, sorry.
-/
import Derived.Test.YtocfcpicleomcaaDoorChecked
import GoSem.Claim
import GoSem.ClaimJoined
import GoSem.ClaimMapViews
import Derived.JoinedTies
import Derived.KernelRfl
namespace Go.Proofs.YtocfcpicleomcaaDoor
/- THE CELL 'sum', in the pinned program and in every row, IS THE sha256 OF THE DUMP (.gsa) THAT YtocfcpicleomcaaDoorProg.lean LOADS. Nothing in Lean hashes anything: it is a label: what it is worth is what the hold of that sum in a sandbox is worth. -/
noncomputable def Tryd.pinned : Pinned := { name := "ytocfcpicleomcaadoor", sum := "4b45f471805516e7e6f89e19d9f56d5642e68340d5624423951e2f9abfd6e193", checked := Tryd.checked }
namespace Rows
def none {H : Type} : Left H := { results := [], args := [] }

/- WHAT THE LISTED PACKAGE-LEVEL VARIABLES READ AS WHEN THE CALL BEGINS. Each datum BY PROGRAM (the guide's laid-datum.mjs) off the statement by which the dump's own 'gosem.cut.vars' lays the variable. In a bare row this is a premise. The card (YtocfcpicleomcaaDoorCards.lean) ties it to the program's text. -/
def laid_math_bits_deBruijn32tab {H : Type} : DataW H := .agg [.lit (.int .u8 0), .lit (.int .u8 1), .lit (.int .u8 28), .lit (.int .u8 2), .lit (.int .u8 29), .lit (.int .u8 14), .lit (.int .u8 24), .lit (.int .u8 3), .lit (.int .u8 30), .lit (.int .u8 22), .lit (.int .u8 20), .lit (.int .u8 15), .lit (.int .u8 25), .lit (.int .u8 17), .lit (.int .u8 4), .lit (.int .u8 8), .lit (.int .u8 31), .lit (.int .u8 27), .lit (.int .u8 13), .lit (.int .u8 23), .lit (.int .u8 21), .lit (.int .u8 19), .lit (.int .u8 16), .lit (.int .u8 7), .lit (.int .u8 26), .lit (.int .u8 12), .lit (.int .u8 18), .lit (.int .u8 6), .lit (.int .u8 11), .lit (.int .u8 5), .lit (.int .u8 10), .lit (.int .u8 9)]
def laid_math_bits_deBruijn64tab {H : Type} : DataW H := .agg [.lit (.int .u8 0), .lit (.int .u8 1), .lit (.int .u8 56), .lit (.int .u8 2), .lit (.int .u8 57), .lit (.int .u8 49), .lit (.int .u8 28), .lit (.int .u8 3), .lit (.int .u8 61), .lit (.int .u8 58), .lit (.int .u8 42), .lit (.int .u8 50), .lit (.int .u8 38), .lit (.int .u8 29), .lit (.int .u8 17), .lit (.int .u8 4), .lit (.int .u8 62), .lit (.int .u8 47), .lit (.int .u8 59), .lit (.int .u8 36), .lit (.int .u8 45), .lit (.int .u8 43), .lit (.int .u8 51), .lit (.int .u8 22), .lit (.int .u8 53), .lit (.int .u8 39), .lit (.int .u8 33), .lit (.int .u8 30), .lit (.int .u8 24), .lit (.int .u8 18), .lit (.int .u8 12), .lit (.int .u8 5), .lit (.int .u8 63), .lit (.int .u8 55), .lit (.int .u8 48), .lit (.int .u8 27), .lit (.int .u8 60), .lit (.int .u8 41), .lit (.int .u8 37), .lit (.int .u8 16), .lit (.int .u8 46), .lit (.int .u8 35), .lit (.int .u8 44), .lit (.int .u8 21), .lit (.int .u8 52), .lit (.int .u8 32), .lit (.int .u8 23), .lit (.int .u8 11), .lit (.int .u8 54), .lit (.int .u8 26), .lit (.int .u8 40), .lit (.int .u8 15), .lit (.int .u8 34), .lit (.int .u8 20), .lit (.int .u8 31), .lit (.int .u8 10), .lit (.int .u8 25), .lit (.int .u8 14), .lit (.int .u8 19), .lit (.int .u8 9), .lit (.int .u8 13), .lit (.int .u8 8), .lit (.int .u8 7), .lit (.int .u8 6)]
def laid_internal_strconv_uint64pow10 {H : Type} : DataW H := .agg [.lit (.int .u64 1), .lit (.int .u64 10), .lit (.int .u64 100), .lit (.int .u64 1000), .lit (.int .u64 10000), .lit (.int .u64 100000), .lit (.int .u64 1000000), .lit (.int .u64 10000000), .lit (.int .u64 100000000), .lit (.int .u64 1000000000), .lit (.int .u64 10000000000), .lit (.int .u64 100000000000), .lit (.int .u64 1000000000000), .lit (.int .u64 10000000000000), .lit (.int .u64 100000000000000), .lit (.int .u64 1000000000000000), .lit (.int .u64 10000000000000000), .lit (.int .u64 100000000000000000), .lit (.int .u64 1000000000000000000), .lit (.int .u64 10000000000000000000)]

/-- 'laws.FnExactAreEqual': WHATEVER THE INPUT: true; the input reads as it did. -/
def fnExactAreEqualSpec : ChangeSpec := { name := "fnExactAreEqual", fn := fun _ => fun
  | [d1, d2] => { results := [.lit (.bool true)], args := [d1, d2] }
  | _ => none }
def fnExactAreEqualRow : OpenClaim := { program := "ytocfcpicleomcaadoor", sum := "4b45f471805516e7e6f89e19d9f56d5642e68340d5624423951e2f9abfd6e193", func := "loop.example/g01168/laws.FnExactAreEqual", spec := "fnExactAreEqual", unfollowed := true, recurses := true, named := ["internal/strconv.uint64pow10", "math/bits.deBruijn32tab", "math/bits.deBruijn64tab"], plainKeys := false, apart := false, laid := [("math/bits.deBruijn32tab", laid_math_bits_deBruijn32tab), ("math/bits.deBruijn64tab", laid_math_bits_deBruijn64tab), ("internal/strconv.uint64pow10", laid_internal_strconv_uint64pow10)] }
def FnExactAreEqualSaid : Prop := fnExactAreEqualRow.holds Tryd.pinned (OpenSpec.ofChange fnExactAreEqualSpec)

/-- ITS FALSE NEIGHBOUR: 'it returns false'. Refute it at one input. -/
def fnExactAreEqualWrong : ChangeSpec := { name := "fnExactAreEqual", fn := fun _ => fun
  | [d1, d2] => { results := [.lit (.bool false)], args := [d1, d2] }
  | _ => none }
def FnExactAreEqualWrongFalsely : Prop := fnExactAreEqualRow.holds Tryd.pinned (OpenSpec.ofChange fnExactAreEqualWrong)

/-- 'laws.FnExactOppositeRelation': WHATEVER THE INPUT: true; the input reads as it did. -/
def fnExactOppositeRelationSpec : ChangeSpec := { name := "fnExactOppositeRelation", fn := fun _ => fun
  | [d] => { results := [.lit (.bool true)], args := [d] }
  | _ => none }
def fnExactOppositeRelationRow : OpenClaim := { program := "ytocfcpicleomcaadoor", sum := "4b45f471805516e7e6f89e19d9f56d5642e68340d5624423951e2f9abfd6e193", func := "loop.example/g01168/laws.FnExactOppositeRelation", spec := "fnExactOppositeRelation", unfollowed := true, recurses := true, named := ["internal/strconv.uint64pow10", "math/bits.deBruijn32tab", "math/bits.deBruijn64tab"], plainKeys := false, apart := false, laid := [("math/bits.deBruijn32tab", laid_math_bits_deBruijn32tab), ("math/bits.deBruijn64tab", laid_math_bits_deBruijn64tab), ("internal/strconv.uint64pow10", laid_internal_strconv_uint64pow10)] }
def FnExactOppositeRelationSaid : Prop := fnExactOppositeRelationRow.holds Tryd.pinned (OpenSpec.ofChange fnExactOppositeRelationSpec)

/-- ITS FALSE NEIGHBOUR: 'it returns false'. Refute it at one input. -/
def fnExactOppositeRelationWrong : ChangeSpec := { name := "fnExactOppositeRelation", fn := fun _ => fun
  | [d] => { results := [.lit (.bool false)], args := [d] }
  | _ => none }
def FnExactOppositeRelationWrongFalsely : Prop := fnExactOppositeRelationRow.holds Tryd.pinned (OpenSpec.ofChange fnExactOppositeRelationWrong)

/-- 'laws.FnExactSameOn': WHATEVER THE INPUT: true; the input reads as it did. -/
def fnExactSameOnSpec : ChangeSpec := { name := "fnExactSameOn", fn := fun _ => fun
  | [d1, d2, d3] => { results := [.lit (.bool true)], args := [d1, d2, d3] }
  | _ => none }
def fnExactSameOnRow : OpenClaim := { program := "ytocfcpicleomcaadoor", sum := "4b45f471805516e7e6f89e19d9f56d5642e68340d5624423951e2f9abfd6e193", func := "loop.example/g01168/laws.FnExactSameOn", spec := "fnExactSameOn", unfollowed := true, recurses := true, named := ["internal/strconv.uint64pow10", "math/bits.deBruijn32tab", "math/bits.deBruijn64tab"], plainKeys := false, apart := false, laid := [("math/bits.deBruijn32tab", laid_math_bits_deBruijn32tab), ("math/bits.deBruijn64tab", laid_math_bits_deBruijn64tab), ("internal/strconv.uint64pow10", laid_internal_strconv_uint64pow10)] }
def FnExactSameOnSaid : Prop := fnExactSameOnRow.holds Tryd.pinned (OpenSpec.ofChange fnExactSameOnSpec)

/-- ITS FALSE NEIGHBOUR: 'it returns false'. Refute it at one input. -/
def fnExactSameOnWrong : ChangeSpec := { name := "fnExactSameOn", fn := fun _ => fun
  | [d1, d2, d3] => { results := [.lit (.bool false)], args := [d1, d2, d3] }
  | _ => none }
def FnExactSameOnWrongFalsely : Prop := fnExactSameOnRow.holds Tryd.pinned (OpenSpec.ofChange fnExactSameOnWrong)

/-- 'laws.FnExactAddTape': WHATEVER THE INPUT: true; the input reads as it did. -/
def fnExactAddTapeSpec : ChangeSpec := { name := "fnExactAddTape", fn := fun _ => fun
  | [d1, d2] => { results := [.lit (.bool true)], args := [d1, d2] }
  | _ => none }
def fnExactAddTapeRow : OpenClaim := { program := "ytocfcpicleomcaadoor", sum := "4b45f471805516e7e6f89e19d9f56d5642e68340d5624423951e2f9abfd6e193", func := "loop.example/g01168/laws.FnExactAddTape", spec := "fnExactAddTape", unfollowed := true, recurses := true, named := ["internal/strconv.uint64pow10", "math/bits.deBruijn32tab", "math/bits.deBruijn64tab"], plainKeys := false, apart := false, laid := [("math/bits.deBruijn32tab", laid_math_bits_deBruijn32tab), ("math/bits.deBruijn64tab", laid_math_bits_deBruijn64tab), ("internal/strconv.uint64pow10", laid_internal_strconv_uint64pow10)] }
def FnExactAddTapeSaid : Prop := fnExactAddTapeRow.holds Tryd.pinned (OpenSpec.ofChange fnExactAddTapeSpec)

/-- ITS FALSE NEIGHBOUR: 'it returns false'. Refute it at one input. -/
def fnExactAddTapeWrong : ChangeSpec := { name := "fnExactAddTape", fn := fun _ => fun
  | [d1, d2] => { results := [.lit (.bool false)], args := [d1, d2] }
  | _ => none }
def FnExactAddTapeWrongFalsely : Prop := fnExactAddTapeRow.holds Tryd.pinned (OpenSpec.ofChange fnExactAddTapeWrong)

/-- 'laws.FnExactBothRelations': WHATEVER THE INPUT: true; the input reads as it did. -/
def fnExactBothRelationsSpec : ChangeSpec := { name := "fnExactBothRelations", fn := fun _ => fun
  | [d1, d2] => { results := [.lit (.bool true)], args := [d1, d2] }
  | _ => none }
def fnExactBothRelationsRow : OpenClaim := { program := "ytocfcpicleomcaadoor", sum := "4b45f471805516e7e6f89e19d9f56d5642e68340d5624423951e2f9abfd6e193", func := "loop.example/g01168/laws.FnExactBothRelations", spec := "fnExactBothRelations", unfollowed := true, recurses := true, named := ["internal/strconv.uint64pow10", "math/bits.deBruijn32tab", "math/bits.deBruijn64tab"], plainKeys := false, apart := false, laid := [("math/bits.deBruijn32tab", laid_math_bits_deBruijn32tab), ("math/bits.deBruijn64tab", laid_math_bits_deBruijn64tab), ("internal/strconv.uint64pow10", laid_internal_strconv_uint64pow10)] }
def FnExactBothRelationsSaid : Prop := fnExactBothRelationsRow.holds Tryd.pinned (OpenSpec.ofChange fnExactBothRelationsSpec)

/-- ITS FALSE NEIGHBOUR: 'it returns false'. Refute it at one input. -/
def fnExactBothRelationsWrong : ChangeSpec := { name := "fnExactBothRelations", fn := fun _ => fun
  | [d1, d2] => { results := [.lit (.bool false)], args := [d1, d2] }
  | _ => none }
def FnExactBothRelationsWrongFalsely : Prop := fnExactBothRelationsRow.holds Tryd.pinned (OpenSpec.ofChange fnExactBothRelationsWrong)

/-- 'laws.FnExactEitherRelation': WHATEVER THE INPUT: true; the input reads as it did. -/
def fnExactEitherRelationSpec : ChangeSpec := { name := "fnExactEitherRelation", fn := fun _ => fun
  | [d1, d2] => { results := [.lit (.bool true)], args := [d1, d2] }
  | _ => none }
def fnExactEitherRelationRow : OpenClaim := { program := "ytocfcpicleomcaadoor", sum := "4b45f471805516e7e6f89e19d9f56d5642e68340d5624423951e2f9abfd6e193", func := "loop.example/g01168/laws.FnExactEitherRelation", spec := "fnExactEitherRelation", unfollowed := true, recurses := true, named := ["internal/strconv.uint64pow10", "math/bits.deBruijn32tab", "math/bits.deBruijn64tab"], plainKeys := false, apart := false, laid := [("math/bits.deBruijn32tab", laid_math_bits_deBruijn32tab), ("math/bits.deBruijn64tab", laid_math_bits_deBruijn64tab), ("internal/strconv.uint64pow10", laid_internal_strconv_uint64pow10)] }
def FnExactEitherRelationSaid : Prop := fnExactEitherRelationRow.holds Tryd.pinned (OpenSpec.ofChange fnExactEitherRelationSpec)

/-- ITS FALSE NEIGHBOUR: 'it returns false'. Refute it at one input. -/
def fnExactEitherRelationWrong : ChangeSpec := { name := "fnExactEitherRelation", fn := fun _ => fun
  | [d1, d2] => { results := [.lit (.bool false)], args := [d1, d2] }
  | _ => none }
def FnExactEitherRelationWrongFalsely : Prop := fnExactEitherRelationRow.holds Tryd.pinned (OpenSpec.ofChange fnExactEitherRelationWrong)

/-- 'laws.FnExactWithoutRelation': WHATEVER THE INPUT: true; the input reads as it did. -/
def fnExactWithoutRelationSpec : ChangeSpec := { name := "fnExactWithoutRelation", fn := fun _ => fun
  | [d1, d2] => { results := [.lit (.bool true)], args := [d1, d2] }
  | _ => none }
def fnExactWithoutRelationRow : OpenClaim := { program := "ytocfcpicleomcaadoor", sum := "4b45f471805516e7e6f89e19d9f56d5642e68340d5624423951e2f9abfd6e193", func := "loop.example/g01168/laws.FnExactWithoutRelation", spec := "fnExactWithoutRelation", unfollowed := true, recurses := true, named := ["internal/strconv.uint64pow10", "math/bits.deBruijn32tab", "math/bits.deBruijn64tab"], plainKeys := false, apart := false, laid := [("math/bits.deBruijn32tab", laid_math_bits_deBruijn32tab), ("math/bits.deBruijn64tab", laid_math_bits_deBruijn64tab), ("internal/strconv.uint64pow10", laid_internal_strconv_uint64pow10)] }
def FnExactWithoutRelationSaid : Prop := fnExactWithoutRelationRow.holds Tryd.pinned (OpenSpec.ofChange fnExactWithoutRelationSpec)

/-- ITS FALSE NEIGHBOUR: 'it returns false'. Refute it at one input. -/
def fnExactWithoutRelationWrong : ChangeSpec := { name := "fnExactWithoutRelation", fn := fun _ => fun
  | [d1, d2] => { results := [.lit (.bool false)], args := [d1, d2] }
  | _ => none }
def FnExactWithoutRelationWrongFalsely : Prop := fnExactWithoutRelationRow.holds Tryd.pinned (OpenSpec.ofChange fnExactWithoutRelationWrong)

/-- 'laws.FnExactMoveTapes': WHATEVER THE INPUT: true; the input reads as it did. -/
def fnExactMoveTapesSpec : ChangeSpec := { name := "fnExactMoveTapes", fn := fun _ => fun
  | [d1, d2] => { results := [.lit (.bool true)], args := [d1, d2] }
  | _ => none }
def fnExactMoveTapesRow : OpenClaim := { program := "ytocfcpicleomcaadoor", sum := "4b45f471805516e7e6f89e19d9f56d5642e68340d5624423951e2f9abfd6e193", func := "loop.example/g01168/laws.FnExactMoveTapes", spec := "fnExactMoveTapes", unfollowed := true, recurses := true, named := ["internal/strconv.uint64pow10", "math/bits.deBruijn32tab", "math/bits.deBruijn64tab"], plainKeys := false, apart := false, laid := [("math/bits.deBruijn32tab", laid_math_bits_deBruijn32tab), ("math/bits.deBruijn64tab", laid_math_bits_deBruijn64tab), ("internal/strconv.uint64pow10", laid_internal_strconv_uint64pow10)] }
def FnExactMoveTapesSaid : Prop := fnExactMoveTapesRow.holds Tryd.pinned (OpenSpec.ofChange fnExactMoveTapesSpec)

/-- ITS FALSE NEIGHBOUR: 'it returns false'. Refute it at one input. -/
def fnExactMoveTapesWrong : ChangeSpec := { name := "fnExactMoveTapes", fn := fun _ => fun
  | [d1, d2] => { results := [.lit (.bool false)], args := [d1, d2] }
  | _ => none }
def FnExactMoveTapesWrongFalsely : Prop := fnExactMoveTapesRow.holds Tryd.pinned (OpenSpec.ofChange fnExactMoveTapesWrong)

/-- 'laws.FnExactInverseRelation': WHATEVER THE INPUT: true; the input reads as it did. -/
def fnExactInverseRelationSpec : ChangeSpec := { name := "fnExactInverseRelation", fn := fun _ => fun
  | [d] => { results := [.lit (.bool true)], args := [d] }
  | _ => none }
def fnExactInverseRelationRow : OpenClaim := { program := "ytocfcpicleomcaadoor", sum := "4b45f471805516e7e6f89e19d9f56d5642e68340d5624423951e2f9abfd6e193", func := "loop.example/g01168/laws.FnExactInverseRelation", spec := "fnExactInverseRelation", unfollowed := true, recurses := true, named := ["internal/strconv.uint64pow10", "math/bits.deBruijn32tab", "math/bits.deBruijn64tab"], plainKeys := false, apart := false, laid := [("math/bits.deBruijn32tab", laid_math_bits_deBruijn32tab), ("math/bits.deBruijn64tab", laid_math_bits_deBruijn64tab), ("internal/strconv.uint64pow10", laid_internal_strconv_uint64pow10)] }
def FnExactInverseRelationSaid : Prop := fnExactInverseRelationRow.holds Tryd.pinned (OpenSpec.ofChange fnExactInverseRelationSpec)

/-- ITS FALSE NEIGHBOUR: 'it returns false'. Refute it at one input. -/
def fnExactInverseRelationWrong : ChangeSpec := { name := "fnExactInverseRelation", fn := fun _ => fun
  | [d] => { results := [.lit (.bool false)], args := [d] }
  | _ => none }
def FnExactInverseRelationWrongFalsely : Prop := fnExactInverseRelationRow.holds Tryd.pinned (OpenSpec.ofChange fnExactInverseRelationWrong)

/-- 'laws.FnExactIsContained': WHATEVER THE INPUT: true; the input reads as it did. -/
def fnExactIsContainedSpec : ChangeSpec := { name := "fnExactIsContained", fn := fun _ => fun
  | [d1, d2] => { results := [.lit (.bool true)], args := [d1, d2] }
  | _ => none }
def fnExactIsContainedRow : OpenClaim := { program := "ytocfcpicleomcaadoor", sum := "4b45f471805516e7e6f89e19d9f56d5642e68340d5624423951e2f9abfd6e193", func := "loop.example/g01168/laws.FnExactIsContained", spec := "fnExactIsContained", unfollowed := true, recurses := true, named := ["internal/strconv.uint64pow10", "math/bits.deBruijn32tab", "math/bits.deBruijn64tab"], plainKeys := false, apart := false, laid := [("math/bits.deBruijn32tab", laid_math_bits_deBruijn32tab), ("math/bits.deBruijn64tab", laid_math_bits_deBruijn64tab), ("internal/strconv.uint64pow10", laid_internal_strconv_uint64pow10)] }
def FnExactIsContainedSaid : Prop := fnExactIsContainedRow.holds Tryd.pinned (OpenSpec.ofChange fnExactIsContainedSpec)

/-- ITS FALSE NEIGHBOUR: 'it returns false'. Refute it at one input. -/
def fnExactIsContainedWrong : ChangeSpec := { name := "fnExactIsContained", fn := fun _ => fun
  | [d1, d2] => { results := [.lit (.bool false)], args := [d1, d2] }
  | _ => none }
def FnExactIsContainedWrongFalsely : Prop := fnExactIsContainedRow.holds Tryd.pinned (OpenSpec.ofChange fnExactIsContainedWrong)

/-- 'laws.FnExactFirstTuple': WHATEVER THE INPUT: true; the input reads as it did. -/
def fnExactFirstTupleSpec : ChangeSpec := { name := "fnExactFirstTuple", fn := fun _ => fun
  | [d] => { results := [.lit (.bool true)], args := [d] }
  | _ => none }
def fnExactFirstTupleRow : OpenClaim := { program := "ytocfcpicleomcaadoor", sum := "4b45f471805516e7e6f89e19d9f56d5642e68340d5624423951e2f9abfd6e193", func := "loop.example/g01168/laws.FnExactFirstTuple", spec := "fnExactFirstTuple", unfollowed := true, recurses := true, named := ["internal/strconv.uint64pow10", "math/bits.deBruijn32tab", "math/bits.deBruijn64tab"], plainKeys := false, apart := false, laid := [("math/bits.deBruijn32tab", laid_math_bits_deBruijn32tab), ("math/bits.deBruijn64tab", laid_math_bits_deBruijn64tab), ("internal/strconv.uint64pow10", laid_internal_strconv_uint64pow10)] }
def FnExactFirstTupleSaid : Prop := fnExactFirstTupleRow.holds Tryd.pinned (OpenSpec.ofChange fnExactFirstTupleSpec)

/-- ITS FALSE NEIGHBOUR: 'it returns false'. Refute it at one input. -/
def fnExactFirstTupleWrong : ChangeSpec := { name := "fnExactFirstTuple", fn := fun _ => fun
  | [d] => { results := [.lit (.bool false)], args := [d] }
  | _ => none }
def FnExactFirstTupleWrongFalsely : Prop := fnExactFirstTupleRow.holds Tryd.pinned (OpenSpec.ofChange fnExactFirstTupleWrong)

/-- 'laws.FnExactFirstUnlike': WHATEVER THE INPUT: true; the input reads as it did. -/
def fnExactFirstUnlikeSpec : ChangeSpec := { name := "fnExactFirstUnlike", fn := fun _ => fun
  | [d1, d2] => { results := [.lit (.bool true)], args := [d1, d2] }
  | _ => none }
def fnExactFirstUnlikeRow : OpenClaim := { program := "ytocfcpicleomcaadoor", sum := "4b45f471805516e7e6f89e19d9f56d5642e68340d5624423951e2f9abfd6e193", func := "loop.example/g01168/laws.FnExactFirstUnlike", spec := "fnExactFirstUnlike", unfollowed := true, recurses := true, named := ["internal/strconv.uint64pow10", "math/bits.deBruijn32tab", "math/bits.deBruijn64tab"], plainKeys := false, apart := false, laid := [("math/bits.deBruijn32tab", laid_math_bits_deBruijn32tab), ("math/bits.deBruijn64tab", laid_math_bits_deBruijn64tab), ("internal/strconv.uint64pow10", laid_internal_strconv_uint64pow10)] }
def FnExactFirstUnlikeSaid : Prop := fnExactFirstUnlikeRow.holds Tryd.pinned (OpenSpec.ofChange fnExactFirstUnlikeSpec)

/-- ITS FALSE NEIGHBOUR: 'it returns false'. Refute it at one input. -/
def fnExactFirstUnlikeWrong : ChangeSpec := { name := "fnExactFirstUnlike", fn := fun _ => fun
  | [d1, d2] => { results := [.lit (.bool false)], args := [d1, d2] }
  | _ => none }
def FnExactFirstUnlikeWrongFalsely : Prop := fnExactFirstUnlikeRow.holds Tryd.pinned (OpenSpec.ofChange fnExactFirstUnlikeWrong)

/- THE SECOND FORM. 'bulk': how many values and letters a reading holds, each counted each time it is reached (what is shared counts as often as it is met; a slice's spare places count too). A statement '..UptoSaid' is the law's where the arguments, and the package variables that the reading takes, are together of bulk at most 1048576: NARROWER than '..Said'. Prove '..Said' where nothing that the law and all that it calls make is longer than what came in: it says more and counts as full. Else prove '..UptoSaid'. A law counts once. -/
mutual
def uptoBulk {H : Type} : DataW H → Nat
  | .lit (.string bytes) => bytes.length + 1
  | .lit _ => 1
  | .nil => 1
  | .ptr d => uptoBulk d + 1
  | .slice elems spare => uptoBulkAll elems + uptoBulkAll spare + 1
  | .agg parts => uptoBulkAll parts + 1
  | .iface _ d => uptoBulk d + 1
  | .map entries => uptoBulkEntries entries + 1
  | .held _ => 1
def uptoBulkAll {H : Type} : List (DataW H) → Nat
  | [] => 0
  | d :: r => uptoBulk d + uptoBulkAll r
def uptoBulkEntries {H : Type} : List (Lit × DataW H) → Nat
  | [] => 0
  | x :: r => uptoBulkEntry x + uptoBulkEntries r
def uptoBulkEntry {H : Type} : Lit × DataW H → Nat
  | (.string bytes, d) => bytes.length + uptoBulk d + 1
  | (_, d) => uptoBulk d + 1
 end
def uptoSmall : (H : Type) → List (DataW H) → Bool := fun _ ds => decide (uptoBulkAll ds ≤ 1048576)
def OpenSpec.upto (s : _root_.Go.ChangeSpec) : _root_.Go.OpenSpec := { _root_.Go.OpenSpec.ofChange s with cond := some uptoSmall }

/-- 'laws.FnExactAreEqual', WHERE WHAT IT READS IS OF BULK AT MOST 1048576: true; the input reads as it did. -/
def fnExactAreEqualUptoRow : OpenClaim := { program := "ytocfcpicleomcaadoor", sum := "4b45f471805516e7e6f89e19d9f56d5642e68340d5624423951e2f9abfd6e193", func := "loop.example/g01168/laws.FnExactAreEqual", spec := "fnExactAreEqual", unfollowed := true, recurses := true, named := ["internal/strconv.uint64pow10", "math/bits.deBruijn32tab", "math/bits.deBruijn64tab"], plainKeys := false, apart := false, laid := [("math/bits.deBruijn32tab", laid_math_bits_deBruijn32tab), ("math/bits.deBruijn64tab", laid_math_bits_deBruijn64tab), ("internal/strconv.uint64pow10", laid_internal_strconv_uint64pow10)], narrowed := true }
def FnExactAreEqualUptoSaid : Prop := fnExactAreEqualUptoRow.holds Tryd.pinned (OpenSpec.upto fnExactAreEqualSpec)

/-- 'laws.FnExactOppositeRelation', WHERE WHAT IT READS IS OF BULK AT MOST 1048576: true; the input reads as it did. -/
def fnExactOppositeRelationUptoRow : OpenClaim := { program := "ytocfcpicleomcaadoor", sum := "4b45f471805516e7e6f89e19d9f56d5642e68340d5624423951e2f9abfd6e193", func := "loop.example/g01168/laws.FnExactOppositeRelation", spec := "fnExactOppositeRelation", unfollowed := true, recurses := true, named := ["internal/strconv.uint64pow10", "math/bits.deBruijn32tab", "math/bits.deBruijn64tab"], plainKeys := false, apart := false, laid := [("math/bits.deBruijn32tab", laid_math_bits_deBruijn32tab), ("math/bits.deBruijn64tab", laid_math_bits_deBruijn64tab), ("internal/strconv.uint64pow10", laid_internal_strconv_uint64pow10)], narrowed := true }
def FnExactOppositeRelationUptoSaid : Prop := fnExactOppositeRelationUptoRow.holds Tryd.pinned (OpenSpec.upto fnExactOppositeRelationSpec)

/-- 'laws.FnExactSameOn', WHERE WHAT IT READS IS OF BULK AT MOST 1048576: true; the input reads as it did. -/
def fnExactSameOnUptoRow : OpenClaim := { program := "ytocfcpicleomcaadoor", sum := "4b45f471805516e7e6f89e19d9f56d5642e68340d5624423951e2f9abfd6e193", func := "loop.example/g01168/laws.FnExactSameOn", spec := "fnExactSameOn", unfollowed := true, recurses := true, named := ["internal/strconv.uint64pow10", "math/bits.deBruijn32tab", "math/bits.deBruijn64tab"], plainKeys := false, apart := false, laid := [("math/bits.deBruijn32tab", laid_math_bits_deBruijn32tab), ("math/bits.deBruijn64tab", laid_math_bits_deBruijn64tab), ("internal/strconv.uint64pow10", laid_internal_strconv_uint64pow10)], narrowed := true }
def FnExactSameOnUptoSaid : Prop := fnExactSameOnUptoRow.holds Tryd.pinned (OpenSpec.upto fnExactSameOnSpec)

/-- 'laws.FnExactAddTape', WHERE WHAT IT READS IS OF BULK AT MOST 1048576: true; the input reads as it did. -/
def fnExactAddTapeUptoRow : OpenClaim := { program := "ytocfcpicleomcaadoor", sum := "4b45f471805516e7e6f89e19d9f56d5642e68340d5624423951e2f9abfd6e193", func := "loop.example/g01168/laws.FnExactAddTape", spec := "fnExactAddTape", unfollowed := true, recurses := true, named := ["internal/strconv.uint64pow10", "math/bits.deBruijn32tab", "math/bits.deBruijn64tab"], plainKeys := false, apart := false, laid := [("math/bits.deBruijn32tab", laid_math_bits_deBruijn32tab), ("math/bits.deBruijn64tab", laid_math_bits_deBruijn64tab), ("internal/strconv.uint64pow10", laid_internal_strconv_uint64pow10)], narrowed := true }
def FnExactAddTapeUptoSaid : Prop := fnExactAddTapeUptoRow.holds Tryd.pinned (OpenSpec.upto fnExactAddTapeSpec)

/-- 'laws.FnExactBothRelations', WHERE WHAT IT READS IS OF BULK AT MOST 1048576: true; the input reads as it did. -/
def fnExactBothRelationsUptoRow : OpenClaim := { program := "ytocfcpicleomcaadoor", sum := "4b45f471805516e7e6f89e19d9f56d5642e68340d5624423951e2f9abfd6e193", func := "loop.example/g01168/laws.FnExactBothRelations", spec := "fnExactBothRelations", unfollowed := true, recurses := true, named := ["internal/strconv.uint64pow10", "math/bits.deBruijn32tab", "math/bits.deBruijn64tab"], plainKeys := false, apart := false, laid := [("math/bits.deBruijn32tab", laid_math_bits_deBruijn32tab), ("math/bits.deBruijn64tab", laid_math_bits_deBruijn64tab), ("internal/strconv.uint64pow10", laid_internal_strconv_uint64pow10)], narrowed := true }
def FnExactBothRelationsUptoSaid : Prop := fnExactBothRelationsUptoRow.holds Tryd.pinned (OpenSpec.upto fnExactBothRelationsSpec)

/-- 'laws.FnExactEitherRelation', WHERE WHAT IT READS IS OF BULK AT MOST 1048576: true; the input reads as it did. -/
def fnExactEitherRelationUptoRow : OpenClaim := { program := "ytocfcpicleomcaadoor", sum := "4b45f471805516e7e6f89e19d9f56d5642e68340d5624423951e2f9abfd6e193", func := "loop.example/g01168/laws.FnExactEitherRelation", spec := "fnExactEitherRelation", unfollowed := true, recurses := true, named := ["internal/strconv.uint64pow10", "math/bits.deBruijn32tab", "math/bits.deBruijn64tab"], plainKeys := false, apart := false, laid := [("math/bits.deBruijn32tab", laid_math_bits_deBruijn32tab), ("math/bits.deBruijn64tab", laid_math_bits_deBruijn64tab), ("internal/strconv.uint64pow10", laid_internal_strconv_uint64pow10)], narrowed := true }
def FnExactEitherRelationUptoSaid : Prop := fnExactEitherRelationUptoRow.holds Tryd.pinned (OpenSpec.upto fnExactEitherRelationSpec)

/-- 'laws.FnExactWithoutRelation', WHERE WHAT IT READS IS OF BULK AT MOST 1048576: true; the input reads as it did. -/
def fnExactWithoutRelationUptoRow : OpenClaim := { program := "ytocfcpicleomcaadoor", sum := "4b45f471805516e7e6f89e19d9f56d5642e68340d5624423951e2f9abfd6e193", func := "loop.example/g01168/laws.FnExactWithoutRelation", spec := "fnExactWithoutRelation", unfollowed := true, recurses := true, named := ["internal/strconv.uint64pow10", "math/bits.deBruijn32tab", "math/bits.deBruijn64tab"], plainKeys := false, apart := false, laid := [("math/bits.deBruijn32tab", laid_math_bits_deBruijn32tab), ("math/bits.deBruijn64tab", laid_math_bits_deBruijn64tab), ("internal/strconv.uint64pow10", laid_internal_strconv_uint64pow10)], narrowed := true }
def FnExactWithoutRelationUptoSaid : Prop := fnExactWithoutRelationUptoRow.holds Tryd.pinned (OpenSpec.upto fnExactWithoutRelationSpec)

/-- 'laws.FnExactMoveTapes', WHERE WHAT IT READS IS OF BULK AT MOST 1048576: true; the input reads as it did. -/
def fnExactMoveTapesUptoRow : OpenClaim := { program := "ytocfcpicleomcaadoor", sum := "4b45f471805516e7e6f89e19d9f56d5642e68340d5624423951e2f9abfd6e193", func := "loop.example/g01168/laws.FnExactMoveTapes", spec := "fnExactMoveTapes", unfollowed := true, recurses := true, named := ["internal/strconv.uint64pow10", "math/bits.deBruijn32tab", "math/bits.deBruijn64tab"], plainKeys := false, apart := false, laid := [("math/bits.deBruijn32tab", laid_math_bits_deBruijn32tab), ("math/bits.deBruijn64tab", laid_math_bits_deBruijn64tab), ("internal/strconv.uint64pow10", laid_internal_strconv_uint64pow10)], narrowed := true }
def FnExactMoveTapesUptoSaid : Prop := fnExactMoveTapesUptoRow.holds Tryd.pinned (OpenSpec.upto fnExactMoveTapesSpec)

/-- 'laws.FnExactInverseRelation', WHERE WHAT IT READS IS OF BULK AT MOST 1048576: true; the input reads as it did. -/
def fnExactInverseRelationUptoRow : OpenClaim := { program := "ytocfcpicleomcaadoor", sum := "4b45f471805516e7e6f89e19d9f56d5642e68340d5624423951e2f9abfd6e193", func := "loop.example/g01168/laws.FnExactInverseRelation", spec := "fnExactInverseRelation", unfollowed := true, recurses := true, named := ["internal/strconv.uint64pow10", "math/bits.deBruijn32tab", "math/bits.deBruijn64tab"], plainKeys := false, apart := false, laid := [("math/bits.deBruijn32tab", laid_math_bits_deBruijn32tab), ("math/bits.deBruijn64tab", laid_math_bits_deBruijn64tab), ("internal/strconv.uint64pow10", laid_internal_strconv_uint64pow10)], narrowed := true }
def FnExactInverseRelationUptoSaid : Prop := fnExactInverseRelationUptoRow.holds Tryd.pinned (OpenSpec.upto fnExactInverseRelationSpec)

/-- 'laws.FnExactIsContained', WHERE WHAT IT READS IS OF BULK AT MOST 1048576: true; the input reads as it did. -/
def fnExactIsContainedUptoRow : OpenClaim := { program := "ytocfcpicleomcaadoor", sum := "4b45f471805516e7e6f89e19d9f56d5642e68340d5624423951e2f9abfd6e193", func := "loop.example/g01168/laws.FnExactIsContained", spec := "fnExactIsContained", unfollowed := true, recurses := true, named := ["internal/strconv.uint64pow10", "math/bits.deBruijn32tab", "math/bits.deBruijn64tab"], plainKeys := false, apart := false, laid := [("math/bits.deBruijn32tab", laid_math_bits_deBruijn32tab), ("math/bits.deBruijn64tab", laid_math_bits_deBruijn64tab), ("internal/strconv.uint64pow10", laid_internal_strconv_uint64pow10)], narrowed := true }
def FnExactIsContainedUptoSaid : Prop := fnExactIsContainedUptoRow.holds Tryd.pinned (OpenSpec.upto fnExactIsContainedSpec)

/-- 'laws.FnExactFirstTuple', WHERE WHAT IT READS IS OF BULK AT MOST 1048576: true; the input reads as it did. -/
def fnExactFirstTupleUptoRow : OpenClaim := { program := "ytocfcpicleomcaadoor", sum := "4b45f471805516e7e6f89e19d9f56d5642e68340d5624423951e2f9abfd6e193", func := "loop.example/g01168/laws.FnExactFirstTuple", spec := "fnExactFirstTuple", unfollowed := true, recurses := true, named := ["internal/strconv.uint64pow10", "math/bits.deBruijn32tab", "math/bits.deBruijn64tab"], plainKeys := false, apart := false, laid := [("math/bits.deBruijn32tab", laid_math_bits_deBruijn32tab), ("math/bits.deBruijn64tab", laid_math_bits_deBruijn64tab), ("internal/strconv.uint64pow10", laid_internal_strconv_uint64pow10)], narrowed := true }
def FnExactFirstTupleUptoSaid : Prop := fnExactFirstTupleUptoRow.holds Tryd.pinned (OpenSpec.upto fnExactFirstTupleSpec)

/-- 'laws.FnExactFirstUnlike', WHERE WHAT IT READS IS OF BULK AT MOST 1048576: true; the input reads as it did. -/
def fnExactFirstUnlikeUptoRow : OpenClaim := { program := "ytocfcpicleomcaadoor", sum := "4b45f471805516e7e6f89e19d9f56d5642e68340d5624423951e2f9abfd6e193", func := "loop.example/g01168/laws.FnExactFirstUnlike", spec := "fnExactFirstUnlike", unfollowed := true, recurses := true, named := ["internal/strconv.uint64pow10", "math/bits.deBruijn32tab", "math/bits.deBruijn64tab"], plainKeys := false, apart := false, laid := [("math/bits.deBruijn32tab", laid_math_bits_deBruijn32tab), ("math/bits.deBruijn64tab", laid_math_bits_deBruijn64tab), ("internal/strconv.uint64pow10", laid_internal_strconv_uint64pow10)], narrowed := true }
def FnExactFirstUnlikeUptoSaid : Prop := fnExactFirstUnlikeUptoRow.holds Tryd.pinned (OpenSpec.upto fnExactFirstUnlikeSpec)

end Rows
end Go.Proofs.YtocfcpicleomcaaDoor
