/-
  No cell of these rows narrows 'for every input' (looked for: loops, veiled, ifaces, maps, wideKeys, modest, calm, conditions, laid).
  DERIVED. THE GIVEN ROWS OF THIS SEAT. 4 by the template 'for every input the law returns true; each argument reads behind the call as it read before'; 0 by the template 'total and deterministic' (their statements: YtlhkmndfkjlodaaTotals.lean).
  GIVEN WITH THE SEED: the statements are not yours to turn. If you find one false, say at which input.
  Laid BY PROGRAM, IN A SANDBOX (cutbox-rows.mjs): the forced cells as the released guide's own fill.sh prints them over the translation 3484ac6e5a61a0aa… (all of the seat's roots in one cut). By AI agents, Wed Nov 11 2026. No macro, syntax, notation, axiom, sorry.
-/
import Derived.Test.YtlhkmndfkjlodaaChecked
import GoSem.Claim
import GoSem.ClaimJoined
import GoSem.ClaimMapViews
import Derived.JoinedTies
import Derived.KernelRfl
namespace Go.Proofs.Ytlhkmndfkjlodaa
/- THE CELL 'sum', in the pinned program and in every row, IS THE sha256 OF THE DUMP (.gsa) THAT YtlhkmndfkjlodaaProg.lean LOADS. Nothing in Lean hashes anything: it is a label: what it is worth is what the hold of that sum in a sandbox is worth. -/
noncomputable def Try.pinned : Pinned := { name := "ytlhkmndfkjlodaa", sum := "3484ac6e5a61a0aaea7826580a8c8bfbb1058205e096483c41a45579872da500", checked := Try.checked }
namespace Rows
def none {H : Type} : Left H := { results := [], args := [] }

/-- 'laws.FnPlaced': WHATEVER THE INPUT: true; the input reads as it did. -/
def fnPlacedSpec : ChangeSpec := { name := "fnPlaced", fn := fun _ => fun
  | [d] => { results := [.lit (.bool true)], args := [d] }
  | _ => none }
def fnPlacedRow : OpenClaim := { program := "ytlhkmndfkjlodaa", sum := "3484ac6e5a61a0aaea7826580a8c8bfbb1058205e096483c41a45579872da500", func := "loop.example/g03413/laws.FnPlaced", spec := "fnPlaced", apart := false }
def FnPlacedSaid : Prop := fnPlacedRow.holds Try.pinned (OpenSpec.ofChange fnPlacedSpec)

/-- ITS FALSE NEIGHBOUR: 'it returns false'. Refute it at one input. -/
def fnPlacedWrong : ChangeSpec := { name := "fnPlaced", fn := fun _ => fun
  | [d] => { results := [.lit (.bool false)], args := [d] }
  | _ => none }
def FnPlacedWrongFalsely : Prop := fnPlacedRow.holds Try.pinned (OpenSpec.ofChange fnPlacedWrong)

/-- 'laws.FnExactCheckBest': WHATEVER THE INPUT: true; the input reads as it did. -/
def fnExactCheckBestSpec : ChangeSpec := { name := "fnExactCheckBest", fn := fun _ => fun
  | [d1, d2, d3] => { results := [.lit (.bool true)], args := [d1, d2, d3] }
  | _ => none }
def fnExactCheckBestRow : OpenClaim := { program := "ytlhkmndfkjlodaa", sum := "3484ac6e5a61a0aaea7826580a8c8bfbb1058205e096483c41a45579872da500", func := "loop.example/g03413/laws.FnExactCheckBest", spec := "fnExactCheckBest", apart := false }
def FnExactCheckBestSaid : Prop := fnExactCheckBestRow.holds Try.pinned (OpenSpec.ofChange fnExactCheckBestSpec)

/-- ITS FALSE NEIGHBOUR: 'it returns false'. Refute it at one input. -/
def fnExactCheckBestWrong : ChangeSpec := { name := "fnExactCheckBest", fn := fun _ => fun
  | [d1, d2, d3] => { results := [.lit (.bool false)], args := [d1, d2, d3] }
  | _ => none }
def FnExactCheckBestWrongFalsely : Prop := fnExactCheckBestRow.holds Try.pinned (OpenSpec.ofChange fnExactCheckBestWrong)

/-- 'laws.FnExactFreeOf': WHATEVER THE INPUT: true; the input reads as it did. -/
def fnExactFreeOfSpec : ChangeSpec := { name := "fnExactFreeOf", fn := fun _ => fun
  | [d1, d2] => { results := [.lit (.bool true)], args := [d1, d2] }
  | _ => none }
def fnExactFreeOfRow : OpenClaim := { program := "ytlhkmndfkjlodaa", sum := "3484ac6e5a61a0aaea7826580a8c8bfbb1058205e096483c41a45579872da500", func := "loop.example/g03413/laws.FnExactFreeOf", spec := "fnExactFreeOf", recurses := true, apart := false }
def FnExactFreeOfSaid : Prop := fnExactFreeOfRow.holds Try.pinned (OpenSpec.ofChange fnExactFreeOfSpec)

/-- ITS FALSE NEIGHBOUR: 'it returns false'. Refute it at one input. -/
def fnExactFreeOfWrong : ChangeSpec := { name := "fnExactFreeOf", fn := fun _ => fun
  | [d1, d2] => { results := [.lit (.bool false)], args := [d1, d2] }
  | _ => none }
def FnExactFreeOfWrongFalsely : Prop := fnExactFreeOfRow.holds Try.pinned (OpenSpec.ofChange fnExactFreeOfWrong)

/-- 'laws.FnExactNegationNormal': WHATEVER THE INPUT: true; the input reads as it did. -/
def fnExactNegationNormalSpec : ChangeSpec := { name := "fnExactNegationNormal", fn := fun _ => fun
  | [d1, d2] => { results := [.lit (.bool true)], args := [d1, d2] }
  | _ => none }
def fnExactNegationNormalRow : OpenClaim := { program := "ytlhkmndfkjlodaa", sum := "3484ac6e5a61a0aaea7826580a8c8bfbb1058205e096483c41a45579872da500", func := "loop.example/g03413/laws.FnExactNegationNormal", spec := "fnExactNegationNormal", recurses := true, apart := false }
def FnExactNegationNormalSaid : Prop := fnExactNegationNormalRow.holds Try.pinned (OpenSpec.ofChange fnExactNegationNormalSpec)

/-- ITS FALSE NEIGHBOUR: 'it returns false'. Refute it at one input. -/
def fnExactNegationNormalWrong : ChangeSpec := { name := "fnExactNegationNormal", fn := fun _ => fun
  | [d1, d2] => { results := [.lit (.bool false)], args := [d1, d2] }
  | _ => none }
def FnExactNegationNormalWrongFalsely : Prop := fnExactNegationNormalRow.holds Try.pinned (OpenSpec.ofChange fnExactNegationNormalWrong)

/- THE SECOND FORM. 'bulk': how many values and letters a reading holds, each counted each time it is reached (what is shared counts as often as it is met; a slice's spare places count too). A statement '..UptoSaid' is the law's where the arguments, and the package variables that the reading takes, are together of bulk at most 1048576: NARROWER than '..Said'. Prove '..Said' where nothing that the law and all that it calls make is longer than what came in: it says more and counts as full. Else prove '..UptoSaid'. A law counts once. -/
mutual
def uptoBulk {H : Type} : DataW H → Nat
  | .lit (.string bytes) => bytes.length + 1
  | .lit _ => 1
  | .nil => 1
  | .ptr d => uptoBulk d + 1
  | .slice elems spare => uptoBulkAll elems + uptoBulkAll spare + 1
  | .agg parts => uptoBulkAll parts + 1
  | .iface _ d => uptoBulk d + 1
  | .map entries => uptoBulkEntries entries + 1
  | .held _ => 1
def uptoBulkAll {H : Type} : List (DataW H) → Nat
  | [] => 0
  | d :: r => uptoBulk d + uptoBulkAll r
def uptoBulkEntries {H : Type} : List (Lit × DataW H) → Nat
  | [] => 0
  | x :: r => uptoBulkEntry x + uptoBulkEntries r
def uptoBulkEntry {H : Type} : Lit × DataW H → Nat
  | (.string bytes, d) => bytes.length + uptoBulk d + 1
  | (_, d) => uptoBulk d + 1
 end
def uptoSmall : (H : Type) → List (DataW H) → Bool := fun _ ds => decide (uptoBulkAll ds ≤ 1048576)
def OpenSpec.upto (s : _root_.Go.ChangeSpec) : _root_.Go.OpenSpec := { _root_.Go.OpenSpec.ofChange s with cond := some uptoSmall }

/-- 'laws.FnPlaced', WHERE WHAT IT READS IS OF BULK AT MOST 1048576: true; the input reads as it did. -/
def fnPlacedUptoRow : OpenClaim := { program := "ytlhkmndfkjlodaa", sum := "3484ac6e5a61a0aaea7826580a8c8bfbb1058205e096483c41a45579872da500", func := "loop.example/g03413/laws.FnPlaced", spec := "fnPlaced", apart := false, narrowed := true }
def FnPlacedUptoSaid : Prop := fnPlacedUptoRow.holds Try.pinned (OpenSpec.upto fnPlacedSpec)

/-- 'laws.FnExactCheckBest', WHERE WHAT IT READS IS OF BULK AT MOST 1048576: true; the input reads as it did. -/
def fnExactCheckBestUptoRow : OpenClaim := { program := "ytlhkmndfkjlodaa", sum := "3484ac6e5a61a0aaea7826580a8c8bfbb1058205e096483c41a45579872da500", func := "loop.example/g03413/laws.FnExactCheckBest", spec := "fnExactCheckBest", apart := false, narrowed := true }
def FnExactCheckBestUptoSaid : Prop := fnExactCheckBestUptoRow.holds Try.pinned (OpenSpec.upto fnExactCheckBestSpec)

/-- 'laws.FnExactFreeOf', WHERE WHAT IT READS IS OF BULK AT MOST 1048576: true; the input reads as it did. -/
def fnExactFreeOfUptoRow : OpenClaim := { program := "ytlhkmndfkjlodaa", sum := "3484ac6e5a61a0aaea7826580a8c8bfbb1058205e096483c41a45579872da500", func := "loop.example/g03413/laws.FnExactFreeOf", spec := "fnExactFreeOf", recurses := true, apart := false, narrowed := true }
def FnExactFreeOfUptoSaid : Prop := fnExactFreeOfUptoRow.holds Try.pinned (OpenSpec.upto fnExactFreeOfSpec)

/-- 'laws.FnExactNegationNormal', WHERE WHAT IT READS IS OF BULK AT MOST 1048576: true; the input reads as it did. -/
def fnExactNegationNormalUptoRow : OpenClaim := { program := "ytlhkmndfkjlodaa", sum := "3484ac6e5a61a0aaea7826580a8c8bfbb1058205e096483c41a45579872da500", func := "loop.example/g03413/laws.FnExactNegationNormal", spec := "fnExactNegationNormal", recurses := true, apart := false, narrowed := true }
def FnExactNegationNormalUptoSaid : Prop := fnExactNegationNormalUptoRow.holds Try.pinned (OpenSpec.upto fnExactNegationNormalSpec)

end Rows
end Go.Proofs.Ytlhkmndfkjlodaa
