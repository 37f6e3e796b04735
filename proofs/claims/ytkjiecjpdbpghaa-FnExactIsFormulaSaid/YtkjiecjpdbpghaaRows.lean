/-
  No cell of these rows narrows 'for every input' (looked for: loops, veiled, ifaces, maps, wideKeys, modest, calm, conditions, laid).
  DERIVED. THE GIVEN ROWS OF THIS SEAT. 10 by the template 'for every input the law returns true; each argument reads behind the call as it read before'; 0 by the template 'total and deterministic' (their statements: YtkjiecjpdbpghaaTotals.lean).
  GIVEN WITH THE SEED: the statements are not yours to turn. If you find one false, say at which input.
  Laid BY PROGRAM, IN A SANDBOX (cutbox-rows.mjs): the forced cells as the released guide's own fill.sh prints them over the translation 4318d85a027c6944… (all of the seat's roots in one cut). By AI agents, Wed Nov 11 2026. No macro, syntax, notation, axiom, sorry.
-/
import Derived.Test.YtkjiecjpdbpghaaChecked
import GoSem.Claim
import GoSem.ClaimJoined
import GoSem.ClaimMapViews
import Derived.JoinedTies
import Derived.KernelRfl
namespace Go.Proofs.Ytkjiecjpdbpghaa
/- THE CELL 'sum', in the pinned program and in every row, IS THE sha256 OF THE DUMP (.gsa) THAT YtkjiecjpdbpghaaProg.lean LOADS. Nothing in Lean hashes anything: it is a label: what it is worth is what the hold of that sum in a sandbox is worth. -/
noncomputable def Try.pinned : Pinned := { name := "ytkjiecjpdbpghaa", sum := "4318d85a027c6944c01b5d6261e50ade48eb62e79794ab27426966dd53c948b9", checked := Try.checked }
namespace Rows
def none {H : Type} : Left H := { results := [], args := [] }

/-- 'laws.FnExactFindRelation': WHATEVER THE INPUT: true; the input reads as it did. -/
def fnExactFindRelationSpec : ChangeSpec := { name := "fnExactFindRelation", fn := fun _ => fun
  | [d1, d2] => { results := [.lit (.bool true)], args := [d1, d2] }
  | _ => none }
def fnExactFindRelationRow : OpenClaim := { program := "ytkjiecjpdbpghaa", sum := "4318d85a027c6944c01b5d6261e50ade48eb62e79794ab27426966dd53c948b9", func := "loop.example/g03413/laws.FnExactFindRelation", spec := "fnExactFindRelation", apart := false }
def FnExactFindRelationSaid : Prop := fnExactFindRelationRow.holds Try.pinned (OpenSpec.ofChange fnExactFindRelationSpec)

/-- ITS FALSE NEIGHBOUR: 'it returns false'. Refute it at one input. -/
def fnExactFindRelationWrong : ChangeSpec := { name := "fnExactFindRelation", fn := fun _ => fun
  | [d1, d2] => { results := [.lit (.bool false)], args := [d1, d2] }
  | _ => none }
def FnExactFindRelationWrongFalsely : Prop := fnExactFindRelationRow.holds Try.pinned (OpenSpec.ofChange fnExactFindRelationWrong)

/-- 'laws.FnExactPlaceCell': WHATEVER THE INPUT: true; the input reads as it did. -/
def fnExactPlaceCellSpec : ChangeSpec := { name := "fnExactPlaceCell", fn := fun _ => fun
  | [d1, d2] => { results := [.lit (.bool true)], args := [d1, d2] }
  | _ => none }
def fnExactPlaceCellRow : OpenClaim := { program := "ytkjiecjpdbpghaa", sum := "4318d85a027c6944c01b5d6261e50ade48eb62e79794ab27426966dd53c948b9", func := "loop.example/g03413/laws.FnExactPlaceCell", spec := "fnExactPlaceCell", apart := false }
def FnExactPlaceCellSaid : Prop := fnExactPlaceCellRow.holds Try.pinned (OpenSpec.ofChange fnExactPlaceCellSpec)

/-- ITS FALSE NEIGHBOUR: 'it returns false'. Refute it at one input. -/
def fnExactPlaceCellWrong : ChangeSpec := { name := "fnExactPlaceCell", fn := fun _ => fun
  | [d1, d2] => { results := [.lit (.bool false)], args := [d1, d2] }
  | _ => none }
def FnExactPlaceCellWrongFalsely : Prop := fnExactPlaceCellRow.holds Try.pinned (OpenSpec.ofChange fnExactPlaceCellWrong)

/-- 'laws.FnExactIsRelation': WHATEVER THE INPUT: true; the input reads as it did. -/
def fnExactIsRelationSpec : ChangeSpec := { name := "fnExactIsRelation", fn := fun _ => fun
  | [d] => { results := [.lit (.bool true)], args := [d] }
  | _ => none }
def fnExactIsRelationRow : OpenClaim := { program := "ytkjiecjpdbpghaa", sum := "4318d85a027c6944c01b5d6261e50ade48eb62e79794ab27426966dd53c948b9", func := "loop.example/g03413/laws.FnExactIsRelation", spec := "fnExactIsRelation", apart := false }
def FnExactIsRelationSaid : Prop := fnExactIsRelationRow.holds Try.pinned (OpenSpec.ofChange fnExactIsRelationSpec)

/-- ITS FALSE NEIGHBOUR: 'it returns false'. Refute it at one input. -/
def fnExactIsRelationWrong : ChangeSpec := { name := "fnExactIsRelation", fn := fun _ => fun
  | [d] => { results := [.lit (.bool false)], args := [d] }
  | _ => none }
def FnExactIsRelationWrongFalsely : Prop := fnExactIsRelationRow.holds Try.pinned (OpenSpec.ofChange fnExactIsRelationWrong)

/-- 'laws.FnExactIsDatabase': WHATEVER THE INPUT: true; the input reads as it did. -/
def fnExactIsDatabaseSpec : ChangeSpec := { name := "fnExactIsDatabase", fn := fun _ => fun
  | [d] => { results := [.lit (.bool true)], args := [d] }
  | _ => none }
def fnExactIsDatabaseRow : OpenClaim := { program := "ytkjiecjpdbpghaa", sum := "4318d85a027c6944c01b5d6261e50ade48eb62e79794ab27426966dd53c948b9", func := "loop.example/g03413/laws.FnExactIsDatabase", spec := "fnExactIsDatabase", apart := false }
def FnExactIsDatabaseSaid : Prop := fnExactIsDatabaseRow.holds Try.pinned (OpenSpec.ofChange fnExactIsDatabaseSpec)

/-- ITS FALSE NEIGHBOUR: 'it returns false'. Refute it at one input. -/
def fnExactIsDatabaseWrong : ChangeSpec := { name := "fnExactIsDatabase", fn := fun _ => fun
  | [d] => { results := [.lit (.bool false)], args := [d] }
  | _ => none }
def FnExactIsDatabaseWrongFalsely : Prop := fnExactIsDatabaseRow.holds Try.pinned (OpenSpec.ofChange fnExactIsDatabaseWrong)

/-- 'laws.FnPlaced': WHATEVER THE INPUT: true; the input reads as it did. -/
def fnPlacedSpec : ChangeSpec := { name := "fnPlaced", fn := fun _ => fun
  | [d] => { results := [.lit (.bool true)], args := [d] }
  | _ => none }
def fnPlacedRow : OpenClaim := { program := "ytkjiecjpdbpghaa", sum := "4318d85a027c6944c01b5d6261e50ade48eb62e79794ab27426966dd53c948b9", func := "loop.example/g03413/laws.FnPlaced", spec := "fnPlaced", apart := false }
def FnPlacedSaid : Prop := fnPlacedRow.holds Try.pinned (OpenSpec.ofChange fnPlacedSpec)

/-- ITS FALSE NEIGHBOUR: 'it returns false'. Refute it at one input. -/
def fnPlacedWrong : ChangeSpec := { name := "fnPlaced", fn := fun _ => fun
  | [d] => { results := [.lit (.bool false)], args := [d] }
  | _ => none }
def FnPlacedWrongFalsely : Prop := fnPlacedRow.holds Try.pinned (OpenSpec.ofChange fnPlacedWrong)

/-- 'laws.FnExactCellsOf': WHATEVER THE INPUT: true; the input reads as it did. -/
def fnExactCellsOfSpec : ChangeSpec := { name := "fnExactCellsOf", fn := fun _ => fun
  | [d1, d2] => { results := [.lit (.bool true)], args := [d1, d2] }
  | _ => none }
def fnExactCellsOfRow : OpenClaim := { program := "ytkjiecjpdbpghaa", sum := "4318d85a027c6944c01b5d6261e50ade48eb62e79794ab27426966dd53c948b9", func := "loop.example/g03413/laws.FnExactCellsOf", spec := "fnExactCellsOf", apart := false }
def FnExactCellsOfSaid : Prop := fnExactCellsOfRow.holds Try.pinned (OpenSpec.ofChange fnExactCellsOfSpec)

/-- ITS FALSE NEIGHBOUR: 'it returns false'. Refute it at one input. -/
def fnExactCellsOfWrong : ChangeSpec := { name := "fnExactCellsOf", fn := fun _ => fun
  | [d1, d2] => { results := [.lit (.bool false)], args := [d1, d2] }
  | _ => none }
def FnExactCellsOfWrongFalsely : Prop := fnExactCellsOfRow.holds Try.pinned (OpenSpec.ofChange fnExactCellsOfWrong)

/-- 'laws.FnExactIsFormula': WHATEVER THE INPUT: true; the input reads as it did. -/
def fnExactIsFormulaSpec : ChangeSpec := { name := "fnExactIsFormula", fn := fun _ => fun
  | [d1, d2] => { results := [.lit (.bool true)], args := [d1, d2] }
  | _ => none }
def fnExactIsFormulaRow : OpenClaim := { program := "ytkjiecjpdbpghaa", sum := "4318d85a027c6944c01b5d6261e50ade48eb62e79794ab27426966dd53c948b9", func := "loop.example/g03413/laws.FnExactIsFormula", spec := "fnExactIsFormula", apart := false }
def FnExactIsFormulaSaid : Prop := fnExactIsFormulaRow.holds Try.pinned (OpenSpec.ofChange fnExactIsFormulaSpec)

/-- ITS FALSE NEIGHBOUR: 'it returns false'. Refute it at one input. -/
def fnExactIsFormulaWrong : ChangeSpec := { name := "fnExactIsFormula", fn := fun _ => fun
  | [d1, d2] => { results := [.lit (.bool false)], args := [d1, d2] }
  | _ => none }
def FnExactIsFormulaWrongFalsely : Prop := fnExactIsFormulaRow.holds Try.pinned (OpenSpec.ofChange fnExactIsFormulaWrong)

/-- 'laws.FnExactCheckBest': WHATEVER THE INPUT: true; the input reads as it did. -/
def fnExactCheckBestSpec : ChangeSpec := { name := "fnExactCheckBest", fn := fun _ => fun
  | [d1, d2, d3] => { results := [.lit (.bool true)], args := [d1, d2, d3] }
  | _ => none }
def fnExactCheckBestRow : OpenClaim := { program := "ytkjiecjpdbpghaa", sum := "4318d85a027c6944c01b5d6261e50ade48eb62e79794ab27426966dd53c948b9", func := "loop.example/g03413/laws.FnExactCheckBest", spec := "fnExactCheckBest", apart := false }
def FnExactCheckBestSaid : Prop := fnExactCheckBestRow.holds Try.pinned (OpenSpec.ofChange fnExactCheckBestSpec)

/-- ITS FALSE NEIGHBOUR: 'it returns false'. Refute it at one input. -/
def fnExactCheckBestWrong : ChangeSpec := { name := "fnExactCheckBest", fn := fun _ => fun
  | [d1, d2, d3] => { results := [.lit (.bool false)], args := [d1, d2, d3] }
  | _ => none }
def FnExactCheckBestWrongFalsely : Prop := fnExactCheckBestRow.holds Try.pinned (OpenSpec.ofChange fnExactCheckBestWrong)

/-- 'laws.FnExactFreeOf': WHATEVER THE INPUT: true; the input reads as it did. -/
def fnExactFreeOfSpec : ChangeSpec := { name := "fnExactFreeOf", fn := fun _ => fun
  | [d1, d2] => { results := [.lit (.bool true)], args := [d1, d2] }
  | _ => none }
def fnExactFreeOfRow : OpenClaim := { program := "ytkjiecjpdbpghaa", sum := "4318d85a027c6944c01b5d6261e50ade48eb62e79794ab27426966dd53c948b9", func := "loop.example/g03413/laws.FnExactFreeOf", spec := "fnExactFreeOf", recurses := true, apart := false }
def FnExactFreeOfSaid : Prop := fnExactFreeOfRow.holds Try.pinned (OpenSpec.ofChange fnExactFreeOfSpec)

/-- ITS FALSE NEIGHBOUR: 'it returns false'. Refute it at one input. -/
def fnExactFreeOfWrong : ChangeSpec := { name := "fnExactFreeOf", fn := fun _ => fun
  | [d1, d2] => { results := [.lit (.bool false)], args := [d1, d2] }
  | _ => none }
def FnExactFreeOfWrongFalsely : Prop := fnExactFreeOfRow.holds Try.pinned (OpenSpec.ofChange fnExactFreeOfWrong)

/-- 'laws.FnExactNegationNormal': WHATEVER THE INPUT: true; the input reads as it did. -/
def fnExactNegationNormalSpec : ChangeSpec := { name := "fnExactNegationNormal", fn := fun _ => fun
  | [d1, d2] => { results := [.lit (.bool true)], args := [d1, d2] }
  | _ => none }
def fnExactNegationNormalRow : OpenClaim := { program := "ytkjiecjpdbpghaa", sum := "4318d85a027c6944c01b5d6261e50ade48eb62e79794ab27426966dd53c948b9", func := "loop.example/g03413/laws.FnExactNegationNormal", spec := "fnExactNegationNormal", recurses := true, apart := false }
def FnExactNegationNormalSaid : Prop := fnExactNegationNormalRow.holds Try.pinned (OpenSpec.ofChange fnExactNegationNormalSpec)

/-- ITS FALSE NEIGHBOUR: 'it returns false'. Refute it at one input. -/
def fnExactNegationNormalWrong : ChangeSpec := { name := "fnExactNegationNormal", fn := fun _ => fun
  | [d1, d2] => { results := [.lit (.bool false)], args := [d1, d2] }
  | _ => none }
def FnExactNegationNormalWrongFalsely : Prop := fnExactNegationNormalRow.holds Try.pinned (OpenSpec.ofChange fnExactNegationNormalWrong)

/- THE SECOND FORM. 'bulk': how many values and letters a reading holds, each counted each time it is reached (what is shared counts as often as it is met; a slice's spare places count too). A statement '..UptoSaid' is the law's where the arguments, and the package variables that the reading takes, are together of bulk at most 1048576: NARROWER than '..Said'. Prove '..Said' where nothing that the law and all that it calls make is longer than what came in: it says more and counts as full. Else prove '..UptoSaid'. A law counts once. -/
mutual
def uptoBulk {H : Type} : DataW H → Nat
  | .lit (.string bytes) => bytes.length + 1
  | .lit _ => 1
  | .nil => 1
  | .ptr d => uptoBulk d + 1
  | .slice elems spare => uptoBulkAll elems + uptoBulkAll spare + 1
  | .agg parts => uptoBulkAll parts + 1
  | .iface _ d => uptoBulk d + 1
  | .map entries => uptoBulkEntries entries + 1
  | .held _ => 1
def uptoBulkAll {H : Type} : List (DataW H) → Nat
  | [] => 0
  | d :: r => uptoBulk d + uptoBulkAll r
def uptoBulkEntries {H : Type} : List (Lit × DataW H) → Nat
  | [] => 0
  | x :: r => uptoBulkEntry x + uptoBulkEntries r
def uptoBulkEntry {H : Type} : Lit × DataW H → Nat
  | (.string bytes, d) => bytes.length + uptoBulk d + 1
  | (_, d) => uptoBulk d + 1
 end
def uptoSmall : (H : Type) → List (DataW H) → Bool := fun _ ds => decide (uptoBulkAll ds ≤ 1048576)
def OpenSpec.upto (s : _root_.Go.ChangeSpec) : _root_.Go.OpenSpec := { _root_.Go.OpenSpec.ofChange s with cond := some uptoSmall }

/-- 'laws.FnExactFindRelation', WHERE WHAT IT READS IS OF BULK AT MOST 1048576: true; the input reads as it did. -/
def fnExactFindRelationUptoRow : OpenClaim := { program := "ytkjiecjpdbpghaa", sum := "4318d85a027c6944c01b5d6261e50ade48eb62e79794ab27426966dd53c948b9", func := "loop.example/g03413/laws.FnExactFindRelation", spec := "fnExactFindRelation", apart := false, narrowed := true }
def FnExactFindRelationUptoSaid : Prop := fnExactFindRelationUptoRow.holds Try.pinned (OpenSpec.upto fnExactFindRelationSpec)

/-- 'laws.FnExactPlaceCell', WHERE WHAT IT READS IS OF BULK AT MOST 1048576: true; the input reads as it did. -/
def fnExactPlaceCellUptoRow : OpenClaim := { program := "ytkjiecjpdbpghaa", sum := "4318d85a027c6944c01b5d6261e50ade48eb62e79794ab27426966dd53c948b9", func := "loop.example/g03413/laws.FnExactPlaceCell", spec := "fnExactPlaceCell", apart := false, narrowed := true }
def FnExactPlaceCellUptoSaid : Prop := fnExactPlaceCellUptoRow.holds Try.pinned (OpenSpec.upto fnExactPlaceCellSpec)

/-- 'laws.FnExactIsRelation', WHERE WHAT IT READS IS OF BULK AT MOST 1048576: true; the input reads as it did. -/
def fnExactIsRelationUptoRow : OpenClaim := { program := "ytkjiecjpdbpghaa", sum := "4318d85a027c6944c01b5d6261e50ade48eb62e79794ab27426966dd53c948b9", func := "loop.example/g03413/laws.FnExactIsRelation", spec := "fnExactIsRelation", apart := false, narrowed := true }
def FnExactIsRelationUptoSaid : Prop := fnExactIsRelationUptoRow.holds Try.pinned (OpenSpec.upto fnExactIsRelationSpec)

/-- 'laws.FnExactIsDatabase', WHERE WHAT IT READS IS OF BULK AT MOST 1048576: true; the input reads as it did. -/
def fnExactIsDatabaseUptoRow : OpenClaim := { program := "ytkjiecjpdbpghaa", sum := "4318d85a027c6944c01b5d6261e50ade48eb62e79794ab27426966dd53c948b9", func := "loop.example/g03413/laws.FnExactIsDatabase", spec := "fnExactIsDatabase", apart := false, narrowed := true }
def FnExactIsDatabaseUptoSaid : Prop := fnExactIsDatabaseUptoRow.holds Try.pinned (OpenSpec.upto fnExactIsDatabaseSpec)

/-- 'laws.FnPlaced', WHERE WHAT IT READS IS OF BULK AT MOST 1048576: true; the input reads as it did. -/
def fnPlacedUptoRow : OpenClaim := { program := "ytkjiecjpdbpghaa", sum := "4318d85a027c6944c01b5d6261e50ade48eb62e79794ab27426966dd53c948b9", func := "loop.example/g03413/laws.FnPlaced", spec := "fnPlaced", apart := false, narrowed := true }
def FnPlacedUptoSaid : Prop := fnPlacedUptoRow.holds Try.pinned (OpenSpec.upto fnPlacedSpec)

/-- 'laws.FnExactCellsOf', WHERE WHAT IT READS IS OF BULK AT MOST 1048576: true; the input reads as it did. -/
def fnExactCellsOfUptoRow : OpenClaim := { program := "ytkjiecjpdbpghaa", sum := "4318d85a027c6944c01b5d6261e50ade48eb62e79794ab27426966dd53c948b9", func := "loop.example/g03413/laws.FnExactCellsOf", spec := "fnExactCellsOf", apart := false, narrowed := true }
def FnExactCellsOfUptoSaid : Prop := fnExactCellsOfUptoRow.holds Try.pinned (OpenSpec.upto fnExactCellsOfSpec)

/-- 'laws.FnExactIsFormula', WHERE WHAT IT READS IS OF BULK AT MOST 1048576: true; the input reads as it did. -/
def fnExactIsFormulaUptoRow : OpenClaim := { program := "ytkjiecjpdbpghaa", sum := "4318d85a027c6944c01b5d6261e50ade48eb62e79794ab27426966dd53c948b9", func := "loop.example/g03413/laws.FnExactIsFormula", spec := "fnExactIsFormula", apart := false, narrowed := true }
def FnExactIsFormulaUptoSaid : Prop := fnExactIsFormulaUptoRow.holds Try.pinned (OpenSpec.upto fnExactIsFormulaSpec)

/-- 'laws.FnExactCheckBest', WHERE WHAT IT READS IS OF BULK AT MOST 1048576: true; the input reads as it did. -/
def fnExactCheckBestUptoRow : OpenClaim := { program := "ytkjiecjpdbpghaa", sum := "4318d85a027c6944c01b5d6261e50ade48eb62e79794ab27426966dd53c948b9", func := "loop.example/g03413/laws.FnExactCheckBest", spec := "fnExactCheckBest", apart := false, narrowed := true }
def FnExactCheckBestUptoSaid : Prop := fnExactCheckBestUptoRow.holds Try.pinned (OpenSpec.upto fnExactCheckBestSpec)

/-- 'laws.FnExactFreeOf', WHERE WHAT IT READS IS OF BULK AT MOST 1048576: true; the input reads as it did. -/
def fnExactFreeOfUptoRow : OpenClaim := { program := "ytkjiecjpdbpghaa", sum := "4318d85a027c6944c01b5d6261e50ade48eb62e79794ab27426966dd53c948b9", func := "loop.example/g03413/laws.FnExactFreeOf", spec := "fnExactFreeOf", recurses := true, apart := false, narrowed := true }
def FnExactFreeOfUptoSaid : Prop := fnExactFreeOfUptoRow.holds Try.pinned (OpenSpec.upto fnExactFreeOfSpec)

/-- 'laws.FnExactNegationNormal', WHERE WHAT IT READS IS OF BULK AT MOST 1048576: true; the input reads as it did. -/
def fnExactNegationNormalUptoRow : OpenClaim := { program := "ytkjiecjpdbpghaa", sum := "4318d85a027c6944c01b5d6261e50ade48eb62e79794ab27426966dd53c948b9", func := "loop.example/g03413/laws.FnExactNegationNormal", spec := "fnExactNegationNormal", recurses := true, apart := false, narrowed := true }
def FnExactNegationNormalUptoSaid : Prop := fnExactNegationNormalUptoRow.holds Try.pinned (OpenSpec.upto fnExactNegationNormalSpec)

end Rows
end Go.Proofs.Ytkjiecjpdbpghaa
