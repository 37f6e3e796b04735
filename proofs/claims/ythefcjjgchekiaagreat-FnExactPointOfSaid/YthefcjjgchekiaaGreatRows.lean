/-
  No cell of these rows narrows 'for every input' (looked for: loops, veiled, ifaces, maps, wideKeys, modest, calm, conditions, laid).
  DERIVED. THE GIVEN ROWS OF THIS SEAT. 19 by the template 'for every input the law returns true; each argument reads behind the call as it read before'; 0 by the template 'total and deterministic' (their statements: YthefcjjgchekiaaGreatTotals.lean).
  GIVEN WITH THE SEED: the statements are not yours to turn. If you find one false, say at which input.
  Laid BY PROGRAM, IN A SANDBOX (cutbox-rows.mjs): the forced cells as the released guide's own fill.sh prints them over the translation 1185d1322aa3fe4b… (all of the seat's roots in one cut). By AI agents, Wed Nov 11 2026. No macro, syntax, notation, axiom, sorry.
-/
import Derived.Test.YthefcjjgchekiaaGreatChecked
import GoSem.Claim
import GoSem.ClaimJoined
import GoSem.ClaimMapViews
import Derived.JoinedTies
import Derived.KernelRfl
namespace Go.Proofs.YthefcjjgchekiaaGreat
/- THE CELL 'sum', in the pinned program and in every row, IS THE sha256 OF THE DUMP (.gsa) THAT YthefcjjgchekiaaGreatProg.lean LOADS. Nothing in Lean hashes anything: it is a label: what it is worth is what the hold of that sum in a sandbox is worth. -/
noncomputable def Tryz.pinned : Pinned := { name := "ythefcjjgchekiaagreat", sum := "1185d1322aa3fe4be6e344eef0ed00beb6709da7a2a9dd8af54b4d5c8b1adc90", checked := Tryz.checked }
namespace Rows
def none {H : Type} : Left H := { results := [], args := [] }

/-- 'laws.FnExactWidthOf': WHATEVER THE INPUT: true; the input reads as it did. -/
def fnExactWidthOfSpec : ChangeSpec := { name := "fnExactWidthOf", fn := fun _ => fun
  | [d1, d2] => { results := [.lit (.bool true)], args := [d1, d2] }
  | _ => none }
def fnExactWidthOfRow : OpenClaim := { program := "ythefcjjgchekiaagreat", sum := "1185d1322aa3fe4be6e344eef0ed00beb6709da7a2a9dd8af54b4d5c8b1adc90", func := "loop.example/g03413/laws.FnExactWidthOf", spec := "fnExactWidthOf", unfollowed := true, recurses := true, apart := false }
def FnExactWidthOfSaid : Prop := fnExactWidthOfRow.holds Tryz.pinned (OpenSpec.ofChange fnExactWidthOfSpec)

/-- ITS FALSE NEIGHBOUR: 'it returns false'. Refute it at one input. -/
def fnExactWidthOfWrong : ChangeSpec := { name := "fnExactWidthOf", fn := fun _ => fun
  | [d1, d2] => { results := [.lit (.bool false)], args := [d1, d2] }
  | _ => none }
def FnExactWidthOfWrongFalsely : Prop := fnExactWidthOfRow.holds Tryz.pinned (OpenSpec.ofChange fnExactWidthOfWrong)

/-- 'laws.FnExactDistanceTo': WHATEVER THE INPUT: true; the input reads as it did. -/
def fnExactDistanceToSpec : ChangeSpec := { name := "fnExactDistanceTo", fn := fun _ => fun
  | [d1, d2] => { results := [.lit (.bool true)], args := [d1, d2] }
  | _ => none }
def fnExactDistanceToRow : OpenClaim := { program := "ythefcjjgchekiaagreat", sum := "1185d1322aa3fe4be6e344eef0ed00beb6709da7a2a9dd8af54b4d5c8b1adc90", func := "loop.example/g03413/laws.FnExactDistanceTo", spec := "fnExactDistanceTo", unfollowed := true, recurses := true, apart := false }
def FnExactDistanceToSaid : Prop := fnExactDistanceToRow.holds Tryz.pinned (OpenSpec.ofChange fnExactDistanceToSpec)

/-- ITS FALSE NEIGHBOUR: 'it returns false'. Refute it at one input. -/
def fnExactDistanceToWrong : ChangeSpec := { name := "fnExactDistanceTo", fn := fun _ => fun
  | [d1, d2] => { results := [.lit (.bool false)], args := [d1, d2] }
  | _ => none }
def FnExactDistanceToWrongFalsely : Prop := fnExactDistanceToRow.holds Tryz.pinned (OpenSpec.ofChange fnExactDistanceToWrong)

/-- 'laws.FnExactSameRegion': WHATEVER THE INPUT: true; the input reads as it did. -/
def fnExactSameRegionSpec : ChangeSpec := { name := "fnExactSameRegion", fn := fun _ => fun
  | [d1, d2] => { results := [.lit (.bool true)], args := [d1, d2] }
  | _ => none }
def fnExactSameRegionRow : OpenClaim := { program := "ythefcjjgchekiaagreat", sum := "1185d1322aa3fe4be6e344eef0ed00beb6709da7a2a9dd8af54b4d5c8b1adc90", func := "loop.example/g03413/laws.FnExactSameRegion", spec := "fnExactSameRegion", unfollowed := true, recurses := true, apart := false }
def FnExactSameRegionSaid : Prop := fnExactSameRegionRow.holds Tryz.pinned (OpenSpec.ofChange fnExactSameRegionSpec)

/-- ITS FALSE NEIGHBOUR: 'it returns false'. Refute it at one input. -/
def fnExactSameRegionWrong : ChangeSpec := { name := "fnExactSameRegion", fn := fun _ => fun
  | [d1, d2] => { results := [.lit (.bool false)], args := [d1, d2] }
  | _ => none }
def FnExactSameRegionWrongFalsely : Prop := fnExactSameRegionRow.holds Tryz.pinned (OpenSpec.ofChange fnExactSameRegionWrong)

/-- 'laws.FnExactClosureOf': WHATEVER THE INPUT: true; the input reads as it did. -/
def fnExactClosureOfSpec : ChangeSpec := { name := "fnExactClosureOf", fn := fun _ => fun
  | [d] => { results := [.lit (.bool true)], args := [d] }
  | _ => none }
def fnExactClosureOfRow : OpenClaim := { program := "ythefcjjgchekiaagreat", sum := "1185d1322aa3fe4be6e344eef0ed00beb6709da7a2a9dd8af54b4d5c8b1adc90", func := "loop.example/g03413/laws.FnExactClosureOf", spec := "fnExactClosureOf", unfollowed := true, recurses := true, apart := false }
def FnExactClosureOfSaid : Prop := fnExactClosureOfRow.holds Tryz.pinned (OpenSpec.ofChange fnExactClosureOfSpec)

/-- ITS FALSE NEIGHBOUR: 'it returns false'. Refute it at one input. -/
def fnExactClosureOfWrong : ChangeSpec := { name := "fnExactClosureOf", fn := fun _ => fun
  | [d] => { results := [.lit (.bool false)], args := [d] }
  | _ => none }
def FnExactClosureOfWrongFalsely : Prop := fnExactClosureOfRow.holds Tryz.pinned (OpenSpec.ofChange fnExactClosureOfWrong)

/-- 'laws.FnExactDifferenceOf': WHATEVER THE INPUT: true; the input reads as it did. -/
def fnExactDifferenceOfSpec : ChangeSpec := { name := "fnExactDifferenceOf", fn := fun _ => fun
  | [d1, d2] => { results := [.lit (.bool true)], args := [d1, d2] }
  | _ => none }
def fnExactDifferenceOfRow : OpenClaim := { program := "ythefcjjgchekiaagreat", sum := "1185d1322aa3fe4be6e344eef0ed00beb6709da7a2a9dd8af54b4d5c8b1adc90", func := "loop.example/g03413/laws.FnExactDifferenceOf", spec := "fnExactDifferenceOf", unfollowed := true, recurses := true, apart := false }
def FnExactDifferenceOfSaid : Prop := fnExactDifferenceOfRow.holds Tryz.pinned (OpenSpec.ofChange fnExactDifferenceOfSpec)

/-- ITS FALSE NEIGHBOUR: 'it returns false'. Refute it at one input. -/
def fnExactDifferenceOfWrong : ChangeSpec := { name := "fnExactDifferenceOf", fn := fun _ => fun
  | [d1, d2] => { results := [.lit (.bool false)], args := [d1, d2] }
  | _ => none }
def FnExactDifferenceOfWrongFalsely : Prop := fnExactDifferenceOfRow.holds Tryz.pinned (OpenSpec.ofChange fnExactDifferenceOfWrong)

/-- 'laws.FnExactPointOf': WHATEVER THE INPUT: true; the input reads as it did. -/
def fnExactPointOfSpec : ChangeSpec := { name := "fnExactPointOf", fn := fun _ => fun
  | [d] => { results := [.lit (.bool true)], args := [d] }
  | _ => none }
def fnExactPointOfRow : OpenClaim := { program := "ythefcjjgchekiaagreat", sum := "1185d1322aa3fe4be6e344eef0ed00beb6709da7a2a9dd8af54b4d5c8b1adc90", func := "loop.example/g03413/laws.FnExactPointOf", spec := "fnExactPointOf", unfollowed := true, recurses := true, apart := false }
def FnExactPointOfSaid : Prop := fnExactPointOfRow.holds Tryz.pinned (OpenSpec.ofChange fnExactPointOfSpec)

/-- ITS FALSE NEIGHBOUR: 'it returns false'. Refute it at one input. -/
def fnExactPointOfWrong : ChangeSpec := { name := "fnExactPointOf", fn := fun _ => fun
  | [d] => { results := [.lit (.bool false)], args := [d] }
  | _ => none }
def FnExactPointOfWrongFalsely : Prop := fnExactPointOfRow.holds Tryz.pinned (OpenSpec.ofChange fnExactPointOfWrong)

/-- 'laws.FnExactSliceOf': WHATEVER THE INPUT: true; the input reads as it did. -/
def fnExactSliceOfSpec : ChangeSpec := { name := "fnExactSliceOf", fn := fun _ => fun
  | [d1, d2, d3] => { results := [.lit (.bool true)], args := [d1, d2, d3] }
  | _ => none }
def fnExactSliceOfRow : OpenClaim := { program := "ythefcjjgchekiaagreat", sum := "1185d1322aa3fe4be6e344eef0ed00beb6709da7a2a9dd8af54b4d5c8b1adc90", func := "loop.example/g03413/laws.FnExactSliceOf", spec := "fnExactSliceOf", unfollowed := true, recurses := true, apart := false }
def FnExactSliceOfSaid : Prop := fnExactSliceOfRow.holds Tryz.pinned (OpenSpec.ofChange fnExactSliceOfSpec)

/-- ITS FALSE NEIGHBOUR: 'it returns false'. Refute it at one input. -/
def fnExactSliceOfWrong : ChangeSpec := { name := "fnExactSliceOf", fn := fun _ => fun
  | [d1, d2, d3] => { results := [.lit (.bool false)], args := [d1, d2, d3] }
  | _ => none }
def FnExactSliceOfWrongFalsely : Prop := fnExactSliceOfRow.holds Tryz.pinned (OpenSpec.ofChange fnExactSliceOfWrong)

/-- 'laws.FnExactComplementOf': WHATEVER THE INPUT: true; the input reads as it did. -/
def fnExactComplementOfSpec : ChangeSpec := { name := "fnExactComplementOf", fn := fun _ => fun
  | [d] => { results := [.lit (.bool true)], args := [d] }
  | _ => none }
def fnExactComplementOfRow : OpenClaim := { program := "ythefcjjgchekiaagreat", sum := "1185d1322aa3fe4be6e344eef0ed00beb6709da7a2a9dd8af54b4d5c8b1adc90", func := "loop.example/g03413/laws.FnExactComplementOf", spec := "fnExactComplementOf", unfollowed := true, recurses := true, apart := false }
def FnExactComplementOfSaid : Prop := fnExactComplementOfRow.holds Tryz.pinned (OpenSpec.ofChange fnExactComplementOfSpec)

/-- ITS FALSE NEIGHBOUR: 'it returns false'. Refute it at one input. -/
def fnExactComplementOfWrong : ChangeSpec := { name := "fnExactComplementOf", fn := fun _ => fun
  | [d] => { results := [.lit (.bool false)], args := [d] }
  | _ => none }
def FnExactComplementOfWrongFalsely : Prop := fnExactComplementOfRow.holds Tryz.pinned (OpenSpec.ofChange fnExactComplementOfWrong)

/-- 'laws.FnExactBufferOf': WHATEVER THE INPUT: true; the input reads as it did. -/
def fnExactBufferOfSpec : ChangeSpec := { name := "fnExactBufferOf", fn := fun _ => fun
  | [d1, d2] => { results := [.lit (.bool true)], args := [d1, d2] }
  | _ => none }
def fnExactBufferOfRow : OpenClaim := { program := "ythefcjjgchekiaagreat", sum := "1185d1322aa3fe4be6e344eef0ed00beb6709da7a2a9dd8af54b4d5c8b1adc90", func := "loop.example/g03413/laws.FnExactBufferOf", spec := "fnExactBufferOf", unfollowed := true, recurses := true, apart := false }
def FnExactBufferOfSaid : Prop := fnExactBufferOfRow.holds Tryz.pinned (OpenSpec.ofChange fnExactBufferOfSpec)

/-- ITS FALSE NEIGHBOUR: 'it returns false'. Refute it at one input. -/
def fnExactBufferOfWrong : ChangeSpec := { name := "fnExactBufferOf", fn := fun _ => fun
  | [d1, d2] => { results := [.lit (.bool false)], args := [d1, d2] }
  | _ => none }
def FnExactBufferOfWrongFalsely : Prop := fnExactBufferOfRow.holds Tryz.pinned (OpenSpec.ofChange fnExactBufferOfWrong)

/-- 'laws.FnExactSplitRegion': WHATEVER THE INPUT: true; the input reads as it did. -/
def fnExactSplitRegionSpec : ChangeSpec := { name := "fnExactSplitRegion", fn := fun _ => fun
  | [d] => { results := [.lit (.bool true)], args := [d] }
  | _ => none }
def fnExactSplitRegionRow : OpenClaim := { program := "ythefcjjgchekiaagreat", sum := "1185d1322aa3fe4be6e344eef0ed00beb6709da7a2a9dd8af54b4d5c8b1adc90", func := "loop.example/g03413/laws.FnExactSplitRegion", spec := "fnExactSplitRegion", unfollowed := true, recurses := true, apart := false }
def FnExactSplitRegionSaid : Prop := fnExactSplitRegionRow.holds Tryz.pinned (OpenSpec.ofChange fnExactSplitRegionSpec)

/-- ITS FALSE NEIGHBOUR: 'it returns false'. Refute it at one input. -/
def fnExactSplitRegionWrong : ChangeSpec := { name := "fnExactSplitRegion", fn := fun _ => fun
  | [d] => { results := [.lit (.bool false)], args := [d] }
  | _ => none }
def FnExactSplitRegionWrongFalsely : Prop := fnExactSplitRegionRow.holds Tryz.pinned (OpenSpec.ofChange fnExactSplitRegionWrong)

/-- 'laws.FnExactInteriorOf': WHATEVER THE INPUT: true; the input reads as it did. -/
def fnExactInteriorOfSpec : ChangeSpec := { name := "fnExactInteriorOf", fn := fun _ => fun
  | [d] => { results := [.lit (.bool true)], args := [d] }
  | _ => none }
def fnExactInteriorOfRow : OpenClaim := { program := "ythefcjjgchekiaagreat", sum := "1185d1322aa3fe4be6e344eef0ed00beb6709da7a2a9dd8af54b4d5c8b1adc90", func := "loop.example/g03413/laws.FnExactInteriorOf", spec := "fnExactInteriorOf", unfollowed := true, recurses := true, apart := false }
def FnExactInteriorOfSaid : Prop := fnExactInteriorOfRow.holds Tryz.pinned (OpenSpec.ofChange fnExactInteriorOfSpec)

/-- ITS FALSE NEIGHBOUR: 'it returns false'. Refute it at one input. -/
def fnExactInteriorOfWrong : ChangeSpec := { name := "fnExactInteriorOf", fn := fun _ => fun
  | [d] => { results := [.lit (.bool false)], args := [d] }
  | _ => none }
def FnExactInteriorOfWrongFalsely : Prop := fnExactInteriorOfRow.holds Tryz.pinned (OpenSpec.ofChange fnExactInteriorOfWrong)

/-- 'laws.FnExactPartsOf': WHATEVER THE INPUT: true; the input reads as it did. -/
def fnExactPartsOfSpec : ChangeSpec := { name := "fnExactPartsOf", fn := fun _ => fun
  | [d] => { results := [.lit (.bool true)], args := [d] }
  | _ => none }
def fnExactPartsOfRow : OpenClaim := { program := "ythefcjjgchekiaagreat", sum := "1185d1322aa3fe4be6e344eef0ed00beb6709da7a2a9dd8af54b4d5c8b1adc90", func := "loop.example/g03413/laws.FnExactPartsOf", spec := "fnExactPartsOf", unfollowed := true, recurses := true, apart := false }
def FnExactPartsOfSaid : Prop := fnExactPartsOfRow.holds Tryz.pinned (OpenSpec.ofChange fnExactPartsOfSpec)

/-- ITS FALSE NEIGHBOUR: 'it returns false'. Refute it at one input. -/
def fnExactPartsOfWrong : ChangeSpec := { name := "fnExactPartsOf", fn := fun _ => fun
  | [d] => { results := [.lit (.bool false)], args := [d] }
  | _ => none }
def FnExactPartsOfWrongFalsely : Prop := fnExactPartsOfRow.holds Tryz.pinned (OpenSpec.ofChange fnExactPartsOfWrong)

/-- 'laws.FnExactBorderOf': WHATEVER THE INPUT: true; the input reads as it did. -/
def fnExactBorderOfSpec : ChangeSpec := { name := "fnExactBorderOf", fn := fun _ => fun
  | [d] => { results := [.lit (.bool true)], args := [d] }
  | _ => none }
def fnExactBorderOfRow : OpenClaim := { program := "ythefcjjgchekiaagreat", sum := "1185d1322aa3fe4be6e344eef0ed00beb6709da7a2a9dd8af54b4d5c8b1adc90", func := "loop.example/g03413/laws.FnExactBorderOf", spec := "fnExactBorderOf", unfollowed := true, recurses := true, apart := false }
def FnExactBorderOfSaid : Prop := fnExactBorderOfRow.holds Tryz.pinned (OpenSpec.ofChange fnExactBorderOfSpec)

/-- ITS FALSE NEIGHBOUR: 'it returns false'. Refute it at one input. -/
def fnExactBorderOfWrong : ChangeSpec := { name := "fnExactBorderOf", fn := fun _ => fun
  | [d] => { results := [.lit (.bool false)], args := [d] }
  | _ => none }
def FnExactBorderOfWrongFalsely : Prop := fnExactBorderOfRow.holds Tryz.pinned (OpenSpec.ofChange fnExactBorderOfWrong)

/-- 'laws.FnExactLengthOf': WHATEVER THE INPUT: true; the input reads as it did. -/
def fnExactLengthOfSpec : ChangeSpec := { name := "fnExactLengthOf", fn := fun _ => fun
  | [d] => { results := [.lit (.bool true)], args := [d] }
  | _ => none }
def fnExactLengthOfRow : OpenClaim := { program := "ythefcjjgchekiaagreat", sum := "1185d1322aa3fe4be6e344eef0ed00beb6709da7a2a9dd8af54b4d5c8b1adc90", func := "loop.example/g03413/laws.FnExactLengthOf", spec := "fnExactLengthOf", unfollowed := true, recurses := true, apart := false }
def FnExactLengthOfSaid : Prop := fnExactLengthOfRow.holds Tryz.pinned (OpenSpec.ofChange fnExactLengthOfSpec)

/-- ITS FALSE NEIGHBOUR: 'it returns false'. Refute it at one input. -/
def fnExactLengthOfWrong : ChangeSpec := { name := "fnExactLengthOf", fn := fun _ => fun
  | [d] => { results := [.lit (.bool false)], args := [d] }
  | _ => none }
def FnExactLengthOfWrongFalsely : Prop := fnExactLengthOfRow.holds Tryz.pinned (OpenSpec.ofChange fnExactLengthOfWrong)

/-- 'laws.FnExactEvaluate': WHATEVER THE INPUT: true; the input reads as it did. -/
def fnExactEvaluateSpec : ChangeSpec := { name := "fnExactEvaluate", fn := fun _ => fun
  | [d1, d2] => { results := [.lit (.bool true)], args := [d1, d2] }
  | _ => none }
def fnExactEvaluateRow : OpenClaim := { program := "ythefcjjgchekiaagreat", sum := "1185d1322aa3fe4be6e344eef0ed00beb6709da7a2a9dd8af54b4d5c8b1adc90", func := "loop.example/g03413/laws.FnExactEvaluate", spec := "fnExactEvaluate", unfollowed := true, recurses := true, apart := false }
def FnExactEvaluateSaid : Prop := fnExactEvaluateRow.holds Tryz.pinned (OpenSpec.ofChange fnExactEvaluateSpec)

/-- ITS FALSE NEIGHBOUR: 'it returns false'. Refute it at one input. -/
def fnExactEvaluateWrong : ChangeSpec := { name := "fnExactEvaluate", fn := fun _ => fun
  | [d1, d2] => { results := [.lit (.bool false)], args := [d1, d2] }
  | _ => none }
def FnExactEvaluateWrongFalsely : Prop := fnExactEvaluateRow.holds Tryz.pinned (OpenSpec.ofChange fnExactEvaluateWrong)

/-- 'laws.FnExactSelectRows': WHATEVER THE INPUT: true; the input reads as it did. -/
def fnExactSelectRowsSpec : ChangeSpec := { name := "fnExactSelectRows", fn := fun _ => fun
  | [d1, d2, d3] => { results := [.lit (.bool true)], args := [d1, d2, d3] }
  | _ => none }
def fnExactSelectRowsRow : OpenClaim := { program := "ythefcjjgchekiaagreat", sum := "1185d1322aa3fe4be6e344eef0ed00beb6709da7a2a9dd8af54b4d5c8b1adc90", func := "loop.example/g03413/laws.FnExactSelectRows", spec := "fnExactSelectRows", unfollowed := true, recurses := true, apart := false }
def FnExactSelectRowsSaid : Prop := fnExactSelectRowsRow.holds Tryz.pinned (OpenSpec.ofChange fnExactSelectRowsSpec)

/-- ITS FALSE NEIGHBOUR: 'it returns false'. Refute it at one input. -/
def fnExactSelectRowsWrong : ChangeSpec := { name := "fnExactSelectRows", fn := fun _ => fun
  | [d1, d2, d3] => { results := [.lit (.bool false)], args := [d1, d2, d3] }
  | _ => none }
def FnExactSelectRowsWrongFalsely : Prop := fnExactSelectRowsRow.holds Tryz.pinned (OpenSpec.ofChange fnExactSelectRowsWrong)

/-- 'laws.FnExactJoinRows': WHATEVER THE INPUT: true; the input reads as it did. -/
def fnExactJoinRowsSpec : ChangeSpec := { name := "fnExactJoinRows", fn := fun _ => fun
  | [d1, d2, d3, d4] => { results := [.lit (.bool true)], args := [d1, d2, d3, d4] }
  | _ => none }
def fnExactJoinRowsRow : OpenClaim := { program := "ythefcjjgchekiaagreat", sum := "1185d1322aa3fe4be6e344eef0ed00beb6709da7a2a9dd8af54b4d5c8b1adc90", func := "loop.example/g03413/laws.FnExactJoinRows", spec := "fnExactJoinRows", unfollowed := true, recurses := true, apart := false }
def FnExactJoinRowsSaid : Prop := fnExactJoinRowsRow.holds Tryz.pinned (OpenSpec.ofChange fnExactJoinRowsSpec)

/-- ITS FALSE NEIGHBOUR: 'it returns false'. Refute it at one input. -/
def fnExactJoinRowsWrong : ChangeSpec := { name := "fnExactJoinRows", fn := fun _ => fun
  | [d1, d2, d3, d4] => { results := [.lit (.bool false)], args := [d1, d2, d3, d4] }
  | _ => none }
def FnExactJoinRowsWrongFalsely : Prop := fnExactJoinRowsRow.holds Tryz.pinned (OpenSpec.ofChange fnExactJoinRowsWrong)

/-- 'laws.FnExactAskAt': WHATEVER THE INPUT: true; the input reads as it did. -/
def fnExactAskAtSpec : ChangeSpec := { name := "fnExactAskAt", fn := fun _ => fun
  | [d1, d2, d3] => { results := [.lit (.bool true)], args := [d1, d2, d3] }
  | _ => none }
def fnExactAskAtRow : OpenClaim := { program := "ythefcjjgchekiaagreat", sum := "1185d1322aa3fe4be6e344eef0ed00beb6709da7a2a9dd8af54b4d5c8b1adc90", func := "loop.example/g03413/laws.FnExactAskAt", spec := "fnExactAskAt", unfollowed := true, recurses := true, apart := false }
def FnExactAskAtSaid : Prop := fnExactAskAtRow.holds Tryz.pinned (OpenSpec.ofChange fnExactAskAtSpec)

/-- ITS FALSE NEIGHBOUR: 'it returns false'. Refute it at one input. -/
def fnExactAskAtWrong : ChangeSpec := { name := "fnExactAskAt", fn := fun _ => fun
  | [d1, d2, d3] => { results := [.lit (.bool false)], args := [d1, d2, d3] }
  | _ => none }
def FnExactAskAtWrongFalsely : Prop := fnExactAskAtRow.holds Tryz.pinned (OpenSpec.ofChange fnExactAskAtWrong)

/-- 'laws.FnExactBestOf': WHATEVER THE INPUT: true; the input reads as it did. -/
def fnExactBestOfSpec : ChangeSpec := { name := "fnExactBestOf", fn := fun _ => fun
  | [d1, d2] => { results := [.lit (.bool true)], args := [d1, d2] }
  | _ => none }
def fnExactBestOfRow : OpenClaim := { program := "ythefcjjgchekiaagreat", sum := "1185d1322aa3fe4be6e344eef0ed00beb6709da7a2a9dd8af54b4d5c8b1adc90", func := "loop.example/g03413/laws.FnExactBestOf", spec := "fnExactBestOf", unfollowed := true, recurses := true, apart := false }
def FnExactBestOfSaid : Prop := fnExactBestOfRow.holds Tryz.pinned (OpenSpec.ofChange fnExactBestOfSpec)

/-- ITS FALSE NEIGHBOUR: 'it returns false'. Refute it at one input. -/
def fnExactBestOfWrong : ChangeSpec := { name := "fnExactBestOf", fn := fun _ => fun
  | [d1, d2] => { results := [.lit (.bool false)], args := [d1, d2] }
  | _ => none }
def FnExactBestOfWrongFalsely : Prop := fnExactBestOfRow.holds Tryz.pinned (OpenSpec.ofChange fnExactBestOfWrong)

/- THE SECOND FORM. 'bulk': how many values and letters a reading holds, each counted each time it is reached (what is shared counts as often as it is met; a slice's spare places count too). A statement '..UptoSaid' is the law's where the arguments, and the package variables that the reading takes, are together of bulk at most 1048576: NARROWER than '..Said'. Prove '..Said' where nothing that the law and all that it calls make is longer than what came in: it says more and counts as full. Else prove '..UptoSaid'. A law counts once. -/
mutual
def uptoBulk {H : Type} : DataW H → Nat
  | .lit (.string bytes) => bytes.length + 1
  | .lit _ => 1
  | .nil => 1
  | .ptr d => uptoBulk d + 1
  | .slice elems spare => uptoBulkAll elems + uptoBulkAll spare + 1
  | .agg parts => uptoBulkAll parts + 1
  | .iface _ d => uptoBulk d + 1
  | .map entries => uptoBulkEntries entries + 1
  | .held _ => 1
def uptoBulkAll {H : Type} : List (DataW H) → Nat
  | [] => 0
  | d :: r => uptoBulk d + uptoBulkAll r
def uptoBulkEntries {H : Type} : List (Lit × DataW H) → Nat
  | [] => 0
  | x :: r => uptoBulkEntry x + uptoBulkEntries r
def uptoBulkEntry {H : Type} : Lit × DataW H → Nat
  | (.string bytes, d) => bytes.length + uptoBulk d + 1
  | (_, d) => uptoBulk d + 1
 end
def uptoSmall : (H : Type) → List (DataW H) → Bool := fun _ ds => decide (uptoBulkAll ds ≤ 1048576)
def OpenSpec.upto (s : _root_.Go.ChangeSpec) : _root_.Go.OpenSpec := { _root_.Go.OpenSpec.ofChange s with cond := some uptoSmall }

/-- 'laws.FnExactWidthOf', WHERE WHAT IT READS IS OF BULK AT MOST 1048576: true; the input reads as it did. -/
def fnExactWidthOfUptoRow : OpenClaim := { program := "ythefcjjgchekiaagreat", sum := "1185d1322aa3fe4be6e344eef0ed00beb6709da7a2a9dd8af54b4d5c8b1adc90", func := "loop.example/g03413/laws.FnExactWidthOf", spec := "fnExactWidthOf", unfollowed := true, recurses := true, apart := false, narrowed := true }
def FnExactWidthOfUptoSaid : Prop := fnExactWidthOfUptoRow.holds Tryz.pinned (OpenSpec.upto fnExactWidthOfSpec)

/-- 'laws.FnExactDistanceTo', WHERE WHAT IT READS IS OF BULK AT MOST 1048576: true; the input reads as it did. -/
def fnExactDistanceToUptoRow : OpenClaim := { program := "ythefcjjgchekiaagreat", sum := "1185d1322aa3fe4be6e344eef0ed00beb6709da7a2a9dd8af54b4d5c8b1adc90", func := "loop.example/g03413/laws.FnExactDistanceTo", spec := "fnExactDistanceTo", unfollowed := true, recurses := true, apart := false, narrowed := true }
def FnExactDistanceToUptoSaid : Prop := fnExactDistanceToUptoRow.holds Tryz.pinned (OpenSpec.upto fnExactDistanceToSpec)

/-- 'laws.FnExactSameRegion', WHERE WHAT IT READS IS OF BULK AT MOST 1048576: true; the input reads as it did. -/
def fnExactSameRegionUptoRow : OpenClaim := { program := "ythefcjjgchekiaagreat", sum := "1185d1322aa3fe4be6e344eef0ed00beb6709da7a2a9dd8af54b4d5c8b1adc90", func := "loop.example/g03413/laws.FnExactSameRegion", spec := "fnExactSameRegion", unfollowed := true, recurses := true, apart := false, narrowed := true }
def FnExactSameRegionUptoSaid : Prop := fnExactSameRegionUptoRow.holds Tryz.pinned (OpenSpec.upto fnExactSameRegionSpec)

/-- 'laws.FnExactClosureOf', WHERE WHAT IT READS IS OF BULK AT MOST 1048576: true; the input reads as it did. -/
def fnExactClosureOfUptoRow : OpenClaim := { program := "ythefcjjgchekiaagreat", sum := "1185d1322aa3fe4be6e344eef0ed00beb6709da7a2a9dd8af54b4d5c8b1adc90", func := "loop.example/g03413/laws.FnExactClosureOf", spec := "fnExactClosureOf", unfollowed := true, recurses := true, apart := false, narrowed := true }
def FnExactClosureOfUptoSaid : Prop := fnExactClosureOfUptoRow.holds Tryz.pinned (OpenSpec.upto fnExactClosureOfSpec)

/-- 'laws.FnExactDifferenceOf', WHERE WHAT IT READS IS OF BULK AT MOST 1048576: true; the input reads as it did. -/
def fnExactDifferenceOfUptoRow : OpenClaim := { program := "ythefcjjgchekiaagreat", sum := "1185d1322aa3fe4be6e344eef0ed00beb6709da7a2a9dd8af54b4d5c8b1adc90", func := "loop.example/g03413/laws.FnExactDifferenceOf", spec := "fnExactDifferenceOf", unfollowed := true, recurses := true, apart := false, narrowed := true }
def FnExactDifferenceOfUptoSaid : Prop := fnExactDifferenceOfUptoRow.holds Tryz.pinned (OpenSpec.upto fnExactDifferenceOfSpec)

/-- 'laws.FnExactPointOf', WHERE WHAT IT READS IS OF BULK AT MOST 1048576: true; the input reads as it did. -/
def fnExactPointOfUptoRow : OpenClaim := { program := "ythefcjjgchekiaagreat", sum := "1185d1322aa3fe4be6e344eef0ed00beb6709da7a2a9dd8af54b4d5c8b1adc90", func := "loop.example/g03413/laws.FnExactPointOf", spec := "fnExactPointOf", unfollowed := true, recurses := true, apart := false, narrowed := true }
def FnExactPointOfUptoSaid : Prop := fnExactPointOfUptoRow.holds Tryz.pinned (OpenSpec.upto fnExactPointOfSpec)

/-- 'laws.FnExactSliceOf', WHERE WHAT IT READS IS OF BULK AT MOST 1048576: true; the input reads as it did. -/
def fnExactSliceOfUptoRow : OpenClaim := { program := "ythefcjjgchekiaagreat", sum := "1185d1322aa3fe4be6e344eef0ed00beb6709da7a2a9dd8af54b4d5c8b1adc90", func := "loop.example/g03413/laws.FnExactSliceOf", spec := "fnExactSliceOf", unfollowed := true, recurses := true, apart := false, narrowed := true }
def FnExactSliceOfUptoSaid : Prop := fnExactSliceOfUptoRow.holds Tryz.pinned (OpenSpec.upto fnExactSliceOfSpec)

/-- 'laws.FnExactComplementOf', WHERE WHAT IT READS IS OF BULK AT MOST 1048576: true; the input reads as it did. -/
def fnExactComplementOfUptoRow : OpenClaim := { program := "ythefcjjgchekiaagreat", sum := "1185d1322aa3fe4be6e344eef0ed00beb6709da7a2a9dd8af54b4d5c8b1adc90", func := "loop.example/g03413/laws.FnExactComplementOf", spec := "fnExactComplementOf", unfollowed := true, recurses := true, apart := false, narrowed := true }
def FnExactComplementOfUptoSaid : Prop := fnExactComplementOfUptoRow.holds Tryz.pinned (OpenSpec.upto fnExactComplementOfSpec)

/-- 'laws.FnExactBufferOf', WHERE WHAT IT READS IS OF BULK AT MOST 1048576: true; the input reads as it did. -/
def fnExactBufferOfUptoRow : OpenClaim := { program := "ythefcjjgchekiaagreat", sum := "1185d1322aa3fe4be6e344eef0ed00beb6709da7a2a9dd8af54b4d5c8b1adc90", func := "loop.example/g03413/laws.FnExactBufferOf", spec := "fnExactBufferOf", unfollowed := true, recurses := true, apart := false, narrowed := true }
def FnExactBufferOfUptoSaid : Prop := fnExactBufferOfUptoRow.holds Tryz.pinned (OpenSpec.upto fnExactBufferOfSpec)

/-- 'laws.FnExactSplitRegion', WHERE WHAT IT READS IS OF BULK AT MOST 1048576: true; the input reads as it did. -/
def fnExactSplitRegionUptoRow : OpenClaim := { program := "ythefcjjgchekiaagreat", sum := "1185d1322aa3fe4be6e344eef0ed00beb6709da7a2a9dd8af54b4d5c8b1adc90", func := "loop.example/g03413/laws.FnExactSplitRegion", spec := "fnExactSplitRegion", unfollowed := true, recurses := true, apart := false, narrowed := true }
def FnExactSplitRegionUptoSaid : Prop := fnExactSplitRegionUptoRow.holds Tryz.pinned (OpenSpec.upto fnExactSplitRegionSpec)

/-- 'laws.FnExactInteriorOf', WHERE WHAT IT READS IS OF BULK AT MOST 1048576: true; the input reads as it did. -/
def fnExactInteriorOfUptoRow : OpenClaim := { program := "ythefcjjgchekiaagreat", sum := "1185d1322aa3fe4be6e344eef0ed00beb6709da7a2a9dd8af54b4d5c8b1adc90", func := "loop.example/g03413/laws.FnExactInteriorOf", spec := "fnExactInteriorOf", unfollowed := true, recurses := true, apart := false, narrowed := true }
def FnExactInteriorOfUptoSaid : Prop := fnExactInteriorOfUptoRow.holds Tryz.pinned (OpenSpec.upto fnExactInteriorOfSpec)

/-- 'laws.FnExactPartsOf', WHERE WHAT IT READS IS OF BULK AT MOST 1048576: true; the input reads as it did. -/
def fnExactPartsOfUptoRow : OpenClaim := { program := "ythefcjjgchekiaagreat", sum := "1185d1322aa3fe4be6e344eef0ed00beb6709da7a2a9dd8af54b4d5c8b1adc90", func := "loop.example/g03413/laws.FnExactPartsOf", spec := "fnExactPartsOf", unfollowed := true, recurses := true, apart := false, narrowed := true }
def FnExactPartsOfUptoSaid : Prop := fnExactPartsOfUptoRow.holds Tryz.pinned (OpenSpec.upto fnExactPartsOfSpec)

/-- 'laws.FnExactBorderOf', WHERE WHAT IT READS IS OF BULK AT MOST 1048576: true; the input reads as it did. -/
def fnExactBorderOfUptoRow : OpenClaim := { program := "ythefcjjgchekiaagreat", sum := "1185d1322aa3fe4be6e344eef0ed00beb6709da7a2a9dd8af54b4d5c8b1adc90", func := "loop.example/g03413/laws.FnExactBorderOf", spec := "fnExactBorderOf", unfollowed := true, recurses := true, apart := false, narrowed := true }
def FnExactBorderOfUptoSaid : Prop := fnExactBorderOfUptoRow.holds Tryz.pinned (OpenSpec.upto fnExactBorderOfSpec)

/-- 'laws.FnExactLengthOf', WHERE WHAT IT READS IS OF BULK AT MOST 1048576: true; the input reads as it did. -/
def fnExactLengthOfUptoRow : OpenClaim := { program := "ythefcjjgchekiaagreat", sum := "1185d1322aa3fe4be6e344eef0ed00beb6709da7a2a9dd8af54b4d5c8b1adc90", func := "loop.example/g03413/laws.FnExactLengthOf", spec := "fnExactLengthOf", unfollowed := true, recurses := true, apart := false, narrowed := true }
def FnExactLengthOfUptoSaid : Prop := fnExactLengthOfUptoRow.holds Tryz.pinned (OpenSpec.upto fnExactLengthOfSpec)

/-- 'laws.FnExactEvaluate', WHERE WHAT IT READS IS OF BULK AT MOST 1048576: true; the input reads as it did. -/
def fnExactEvaluateUptoRow : OpenClaim := { program := "ythefcjjgchekiaagreat", sum := "1185d1322aa3fe4be6e344eef0ed00beb6709da7a2a9dd8af54b4d5c8b1adc90", func := "loop.example/g03413/laws.FnExactEvaluate", spec := "fnExactEvaluate", unfollowed := true, recurses := true, apart := false, narrowed := true }
def FnExactEvaluateUptoSaid : Prop := fnExactEvaluateUptoRow.holds Tryz.pinned (OpenSpec.upto fnExactEvaluateSpec)

/-- 'laws.FnExactSelectRows', WHERE WHAT IT READS IS OF BULK AT MOST 1048576: true; the input reads as it did. -/
def fnExactSelectRowsUptoRow : OpenClaim := { program := "ythefcjjgchekiaagreat", sum := "1185d1322aa3fe4be6e344eef0ed00beb6709da7a2a9dd8af54b4d5c8b1adc90", func := "loop.example/g03413/laws.FnExactSelectRows", spec := "fnExactSelectRows", unfollowed := true, recurses := true, apart := false, narrowed := true }
def FnExactSelectRowsUptoSaid : Prop := fnExactSelectRowsUptoRow.holds Tryz.pinned (OpenSpec.upto fnExactSelectRowsSpec)

/-- 'laws.FnExactJoinRows', WHERE WHAT IT READS IS OF BULK AT MOST 1048576: true; the input reads as it did. -/
def fnExactJoinRowsUptoRow : OpenClaim := { program := "ythefcjjgchekiaagreat", sum := "1185d1322aa3fe4be6e344eef0ed00beb6709da7a2a9dd8af54b4d5c8b1adc90", func := "loop.example/g03413/laws.FnExactJoinRows", spec := "fnExactJoinRows", unfollowed := true, recurses := true, apart := false, narrowed := true }
def FnExactJoinRowsUptoSaid : Prop := fnExactJoinRowsUptoRow.holds Tryz.pinned (OpenSpec.upto fnExactJoinRowsSpec)

/-- 'laws.FnExactAskAt', WHERE WHAT IT READS IS OF BULK AT MOST 1048576: true; the input reads as it did. -/
def fnExactAskAtUptoRow : OpenClaim := { program := "ythefcjjgchekiaagreat", sum := "1185d1322aa3fe4be6e344eef0ed00beb6709da7a2a9dd8af54b4d5c8b1adc90", func := "loop.example/g03413/laws.FnExactAskAt", spec := "fnExactAskAt", unfollowed := true, recurses := true, apart := false, narrowed := true }
def FnExactAskAtUptoSaid : Prop := fnExactAskAtUptoRow.holds Tryz.pinned (OpenSpec.upto fnExactAskAtSpec)

/-- 'laws.FnExactBestOf', WHERE WHAT IT READS IS OF BULK AT MOST 1048576: true; the input reads as it did. -/
def fnExactBestOfUptoRow : OpenClaim := { program := "ythefcjjgchekiaagreat", sum := "1185d1322aa3fe4be6e344eef0ed00beb6709da7a2a9dd8af54b4d5c8b1adc90", func := "loop.example/g03413/laws.FnExactBestOf", spec := "fnExactBestOf", unfollowed := true, recurses := true, apart := false, narrowed := true }
def FnExactBestOfUptoSaid : Prop := fnExactBestOfUptoRow.holds Tryz.pinned (OpenSpec.upto fnExactBestOfSpec)

end Rows
end Go.Proofs.YthefcjjgchekiaaGreat
