/-
  No cell of these rows narrows 'for every input' (looked for: loops, veiled, ifaces, maps, wideKeys, modest, calm, conditions, laid).
  DERIVED. THE GIVEN ROWS OF THIS SEAT. 10 by the template 'for every input the law returns true; each argument reads behind the call as it read before'; 0 by the template 'total and deterministic' (their statements: YtghcfpnjkhefeaaTotals.lean).
  GIVEN WITH THE SEED: the statements are not yours to turn. If you find one false, say at which input.
  Laid BY PROGRAM, IN A SANDBOX (cutbox-rows.mjs): the forced cells as the released guide's own fill.sh prints them over the translation 9d2b9c8a824055fd… (all of the seat's roots in one cut). By AI agents, Wed Nov 11 2026. No macro, syntax, notation, axiom, sorry.
-/
import Derived.Test.YtghcfpnjkhefeaaChecked
import GoSem.Claim
import GoSem.ClaimJoined
import GoSem.ClaimMapViews
import Derived.JoinedTies
import Derived.KernelRfl
namespace Go.Proofs.Ytghcfpnjkhefeaa
/- THE CELL 'sum', in the pinned program and in every row, IS THE sha256 OF THE DUMP (.gsa) THAT YtghcfpnjkhefeaaProg.lean LOADS. Nothing in Lean hashes anything: it is a label: what it is worth is what the hold of that sum in a sandbox is worth. -/
noncomputable def Try.pinned : Pinned := { name := "ytghcfpnjkhefeaa", sum := "9d2b9c8a824055fd438baeae2b5ec2746aea370c0e48110d0877d8e588d2e624", checked := Try.checked }
namespace Rows
def none {H : Type} : Left H := { results := [], args := [] }

/-- 'laws.FnExactRouteCrossings': WHATEVER THE INPUT: true; the input reads as it did. -/
def fnExactRouteCrossingsSpec : ChangeSpec := { name := "fnExactRouteCrossings", fn := fun _ => fun
  | [d1, d2] => { results := [.lit (.bool true)], args := [d1, d2] }
  | _ => none }
def fnExactRouteCrossingsRow : OpenClaim := { program := "ytghcfpnjkhefeaa", sum := "9d2b9c8a824055fd438baeae2b5ec2746aea370c0e48110d0877d8e588d2e624", func := "loop.example/g01336/laws.FnExactRouteCrossings", spec := "fnExactRouteCrossings", inPlace := ["internal/bytealg.IndexByteString"], apart := false }
def FnExactRouteCrossingsSaid : Prop := fnExactRouteCrossingsRow.holds Try.pinned (OpenSpec.ofChange fnExactRouteCrossingsSpec)

/-- ITS FALSE NEIGHBOUR: 'it returns false'. Refute it at one input. -/
def fnExactRouteCrossingsWrong : ChangeSpec := { name := "fnExactRouteCrossings", fn := fun _ => fun
  | [d1, d2] => { results := [.lit (.bool false)], args := [d1, d2] }
  | _ => none }
def FnExactRouteCrossingsWrongFalsely : Prop := fnExactRouteCrossingsRow.holds Try.pinned (OpenSpec.ofChange fnExactRouteCrossingsWrong)

/-- 'laws.FnExactFewestCrossings': WHATEVER THE INPUT: true; the input reads as it did. -/
def fnExactFewestCrossingsSpec : ChangeSpec := { name := "fnExactFewestCrossings", fn := fun _ => fun
  | [d1, d2] => { results := [.lit (.bool true)], args := [d1, d2] }
  | _ => none }
def fnExactFewestCrossingsRow : OpenClaim := { program := "ytghcfpnjkhefeaa", sum := "9d2b9c8a824055fd438baeae2b5ec2746aea370c0e48110d0877d8e588d2e624", func := "loop.example/g01336/laws.FnExactFewestCrossings", spec := "fnExactFewestCrossings", inPlace := ["internal/bytealg.IndexByteString"], apart := false }
def FnExactFewestCrossingsSaid : Prop := fnExactFewestCrossingsRow.holds Try.pinned (OpenSpec.ofChange fnExactFewestCrossingsSpec)

/-- ITS FALSE NEIGHBOUR: 'it returns false'. Refute it at one input. -/
def fnExactFewestCrossingsWrong : ChangeSpec := { name := "fnExactFewestCrossings", fn := fun _ => fun
  | [d1, d2] => { results := [.lit (.bool false)], args := [d1, d2] }
  | _ => none }
def FnExactFewestCrossingsWrongFalsely : Prop := fnExactFewestCrossingsRow.holds Try.pinned (OpenSpec.ofChange fnExactFewestCrossingsWrong)

/-- 'laws.FnExactRouteCost': WHATEVER THE INPUT: true; the input reads as it did. -/
def fnExactRouteCostSpec : ChangeSpec := { name := "fnExactRouteCost", fn := fun _ => fun
  | [d1, d2, d3] => { results := [.lit (.bool true)], args := [d1, d2, d3] }
  | _ => none }
def fnExactRouteCostRow : OpenClaim := { program := "ytghcfpnjkhefeaa", sum := "9d2b9c8a824055fd438baeae2b5ec2746aea370c0e48110d0877d8e588d2e624", func := "loop.example/g01336/laws.FnExactRouteCost", spec := "fnExactRouteCost", inPlace := ["internal/bytealg.IndexByteString"], apart := false }
def FnExactRouteCostSaid : Prop := fnExactRouteCostRow.holds Try.pinned (OpenSpec.ofChange fnExactRouteCostSpec)

/-- ITS FALSE NEIGHBOUR: 'it returns false'. Refute it at one input. -/
def fnExactRouteCostWrong : ChangeSpec := { name := "fnExactRouteCost", fn := fun _ => fun
  | [d1, d2, d3] => { results := [.lit (.bool false)], args := [d1, d2, d3] }
  | _ => none }
def FnExactRouteCostWrongFalsely : Prop := fnExactRouteCostRow.holds Try.pinned (OpenSpec.ofChange fnExactRouteCostWrong)

/-- 'laws.FnExactCountRoutes': WHATEVER THE INPUT: true; the input reads as it did. -/
def fnExactCountRoutesSpec : ChangeSpec := { name := "fnExactCountRoutes", fn := fun _ => fun
  | [d1, d2] => { results := [.lit (.bool true)], args := [d1, d2] }
  | _ => none }
def fnExactCountRoutesRow : OpenClaim := { program := "ytghcfpnjkhefeaa", sum := "9d2b9c8a824055fd438baeae2b5ec2746aea370c0e48110d0877d8e588d2e624", func := "loop.example/g01336/laws.FnExactCountRoutes", spec := "fnExactCountRoutes", inPlace := ["internal/bytealg.IndexByteString"], apart := false }
def FnExactCountRoutesSaid : Prop := fnExactCountRoutesRow.holds Try.pinned (OpenSpec.ofChange fnExactCountRoutesSpec)

/-- ITS FALSE NEIGHBOUR: 'it returns false'. Refute it at one input. -/
def fnExactCountRoutesWrong : ChangeSpec := { name := "fnExactCountRoutes", fn := fun _ => fun
  | [d1, d2] => { results := [.lit (.bool false)], args := [d1, d2] }
  | _ => none }
def FnExactCountRoutesWrongFalsely : Prop := fnExactCountRoutesRow.holds Try.pinned (OpenSpec.ofChange fnExactCountRoutesWrong)

/-- 'laws.FnExactCountDelivered': WHATEVER THE INPUT: true; the input reads as it did. -/
def fnExactCountDeliveredSpec : ChangeSpec := { name := "fnExactCountDelivered", fn := fun _ => fun
  | [d] => { results := [.lit (.bool true)], args := [d] }
  | _ => none }
def fnExactCountDeliveredRow : OpenClaim := { program := "ytghcfpnjkhefeaa", sum := "9d2b9c8a824055fd438baeae2b5ec2746aea370c0e48110d0877d8e588d2e624", func := "loop.example/g01336/laws.FnExactCountDelivered", spec := "fnExactCountDelivered", inPlace := ["internal/bytealg.IndexByteString", "internal/bytealg.CountString", "internal/bytealg.IndexString"], named := ["internal/bytealg.MaxLen"], apart := false }
def FnExactCountDeliveredSaid : Prop := fnExactCountDeliveredRow.holds Try.pinned (OpenSpec.ofChange fnExactCountDeliveredSpec)

/-- ITS FALSE NEIGHBOUR: 'it returns false'. Refute it at one input. -/
def fnExactCountDeliveredWrong : ChangeSpec := { name := "fnExactCountDelivered", fn := fun _ => fun
  | [d] => { results := [.lit (.bool false)], args := [d] }
  | _ => none }
def FnExactCountDeliveredWrongFalsely : Prop := fnExactCountDeliveredRow.holds Try.pinned (OpenSpec.ofChange fnExactCountDeliveredWrong)

/-- 'laws.FnExactRouteSides': WHATEVER THE INPUT: true; the input reads as it did. -/
def fnExactRouteSidesSpec : ChangeSpec := { name := "fnExactRouteSides", fn := fun _ => fun
  | [d1, d2] => { results := [.lit (.bool true)], args := [d1, d2] }
  | _ => none }
def fnExactRouteSidesRow : OpenClaim := { program := "ytghcfpnjkhefeaa", sum := "9d2b9c8a824055fd438baeae2b5ec2746aea370c0e48110d0877d8e588d2e624", func := "loop.example/g01336/laws.FnExactRouteSides", spec := "fnExactRouteSides", inPlace := ["internal/bytealg.IndexByteString"], apart := false }
def FnExactRouteSidesSaid : Prop := fnExactRouteSidesRow.holds Try.pinned (OpenSpec.ofChange fnExactRouteSidesSpec)

/-- ITS FALSE NEIGHBOUR: 'it returns false'. Refute it at one input. -/
def fnExactRouteSidesWrong : ChangeSpec := { name := "fnExactRouteSides", fn := fun _ => fun
  | [d1, d2] => { results := [.lit (.bool false)], args := [d1, d2] }
  | _ => none }
def FnExactRouteSidesWrongFalsely : Prop := fnExactRouteSidesRow.holds Try.pinned (OpenSpec.ofChange fnExactRouteSidesWrong)

/-- 'laws.FnExactBusiestPart': WHATEVER THE INPUT: true; the input reads as it did. -/
def fnExactBusiestPartSpec : ChangeSpec := { name := "fnExactBusiestPart", fn := fun _ => fun
  | [d1, d2] => { results := [.lit (.bool true)], args := [d1, d2] }
  | _ => none }
def fnExactBusiestPartRow : OpenClaim := { program := "ytghcfpnjkhefeaa", sum := "9d2b9c8a824055fd438baeae2b5ec2746aea370c0e48110d0877d8e588d2e624", func := "loop.example/g01336/laws.FnExactBusiestPart", spec := "fnExactBusiestPart", inPlace := ["internal/bytealg.IndexByteString", "internal/bytealg.CountString", "internal/bytealg.IndexString"], named := ["internal/bytealg.MaxLen"], apart := false }
def FnExactBusiestPartSaid : Prop := fnExactBusiestPartRow.holds Try.pinned (OpenSpec.ofChange fnExactBusiestPartSpec)

/-- ITS FALSE NEIGHBOUR: 'it returns false'. Refute it at one input. -/
def fnExactBusiestPartWrong : ChangeSpec := { name := "fnExactBusiestPart", fn := fun _ => fun
  | [d1, d2] => { results := [.lit (.bool false)], args := [d1, d2] }
  | _ => none }
def FnExactBusiestPartWrongFalsely : Prop := fnExactBusiestPartRow.holds Try.pinned (OpenSpec.ofChange fnExactBusiestPartWrong)

/-- 'laws.FnExactDeliveriesOf': WHATEVER THE INPUT: true; the input reads as it did. -/
def fnExactDeliveriesOfSpec : ChangeSpec := { name := "fnExactDeliveriesOf", fn := fun _ => fun
  | [d1, d2] => { results := [.lit (.bool true)], args := [d1, d2] }
  | _ => none }
def fnExactDeliveriesOfRow : OpenClaim := { program := "ytghcfpnjkhefeaa", sum := "9d2b9c8a824055fd438baeae2b5ec2746aea370c0e48110d0877d8e588d2e624", func := "loop.example/g01336/laws.FnExactDeliveriesOf", spec := "fnExactDeliveriesOf", inPlace := ["internal/abi.NoEscape", "internal/bytealg.MakeNoZero"], apart := false }
def FnExactDeliveriesOfSaid : Prop := fnExactDeliveriesOfRow.holds Try.pinned (OpenSpec.ofChange fnExactDeliveriesOfSpec)

/-- ITS FALSE NEIGHBOUR: 'it returns false'. Refute it at one input. -/
def fnExactDeliveriesOfWrong : ChangeSpec := { name := "fnExactDeliveriesOf", fn := fun _ => fun
  | [d1, d2] => { results := [.lit (.bool false)], args := [d1, d2] }
  | _ => none }
def FnExactDeliveriesOfWrongFalsely : Prop := fnExactDeliveriesOfRow.holds Try.pinned (OpenSpec.ofChange fnExactDeliveriesOfWrong)

/-- 'laws.FnExactRouteNumbers': WHATEVER THE INPUT: true; the input reads as it did. -/
def fnExactRouteNumbersSpec : ChangeSpec := { name := "fnExactRouteNumbers", fn := fun _ => fun
  | [d1, d2, d3] => { results := [.lit (.bool true)], args := [d1, d2, d3] }
  | _ => none }
def fnExactRouteNumbersRow : OpenClaim := { program := "ytghcfpnjkhefeaa", sum := "9d2b9c8a824055fd438baeae2b5ec2746aea370c0e48110d0877d8e588d2e624", func := "loop.example/g01336/laws.FnExactRouteNumbers", spec := "fnExactRouteNumbers", inPlace := ["internal/bytealg.IndexByteString", "internal/bytealg.IndexString"], named := ["internal/bytealg.MaxLen"], apart := false }
def FnExactRouteNumbersSaid : Prop := fnExactRouteNumbersRow.holds Try.pinned (OpenSpec.ofChange fnExactRouteNumbersSpec)

/-- ITS FALSE NEIGHBOUR: 'it returns false'. Refute it at one input. -/
def fnExactRouteNumbersWrong : ChangeSpec := { name := "fnExactRouteNumbers", fn := fun _ => fun
  | [d1, d2, d3] => { results := [.lit (.bool false)], args := [d1, d2, d3] }
  | _ => none }
def FnExactRouteNumbersWrongFalsely : Prop := fnExactRouteNumbersRow.holds Try.pinned (OpenSpec.ofChange fnExactRouteNumbersWrong)

/-- 'laws.FnExactNumbersOf': WHATEVER THE INPUT: true; the input reads as it did. -/
def fnExactNumbersOfSpec : ChangeSpec := { name := "fnExactNumbersOf", fn := fun _ => fun
  | [d1, d2] => { results := [.lit (.bool true)], args := [d1, d2] }
  | _ => none }
def fnExactNumbersOfRow : OpenClaim := { program := "ytghcfpnjkhefeaa", sum := "9d2b9c8a824055fd438baeae2b5ec2746aea370c0e48110d0877d8e588d2e624", func := "loop.example/g01336/laws.FnExactNumbersOf", spec := "fnExactNumbersOf", inPlace := ["internal/bytealg.IndexByteString", "internal/bytealg.IndexString"], recurses := true, named := ["internal/bytealg.MaxLen"], apart := false }
def FnExactNumbersOfSaid : Prop := fnExactNumbersOfRow.holds Try.pinned (OpenSpec.ofChange fnExactNumbersOfSpec)

/-- ITS FALSE NEIGHBOUR: 'it returns false'. Refute it at one input. -/
def fnExactNumbersOfWrong : ChangeSpec := { name := "fnExactNumbersOf", fn := fun _ => fun
  | [d1, d2] => { results := [.lit (.bool false)], args := [d1, d2] }
  | _ => none }
def FnExactNumbersOfWrongFalsely : Prop := fnExactNumbersOfRow.holds Try.pinned (OpenSpec.ofChange fnExactNumbersOfWrong)

/- THE SECOND FORM. 'bulk': how many values and letters a reading holds, each counted each time it is reached (what is shared counts as often as it is met; a slice's spare places count too). A statement '..UptoSaid' is the law's where the arguments, and the package variables that the reading takes, are together of bulk at most 1048576: NARROWER than '..Said'. Prove '..Said' where nothing that the law and all that it calls make is longer than what came in: it says more and counts as full. Else prove '..UptoSaid'. A law counts once. -/
mutual
def uptoBulk {H : Type} : DataW H → Nat
  | .lit (.string bytes) => bytes.length + 1
  | .lit _ => 1
  | .nil => 1
  | .ptr d => uptoBulk d + 1
  | .slice elems spare => uptoBulkAll elems + uptoBulkAll spare + 1
  | .agg parts => uptoBulkAll parts + 1
  | .iface _ d => uptoBulk d + 1
  | .map entries => uptoBulkEntries entries + 1
  | .held _ => 1
def uptoBulkAll {H : Type} : List (DataW H) → Nat
  | [] => 0
  | d :: r => uptoBulk d + uptoBulkAll r
def uptoBulkEntries {H : Type} : List (Lit × DataW H) → Nat
  | [] => 0
  | x :: r => uptoBulkEntry x + uptoBulkEntries r
def uptoBulkEntry {H : Type} : Lit × DataW H → Nat
  | (.string bytes, d) => bytes.length + uptoBulk d + 1
  | (_, d) => uptoBulk d + 1
 end
def uptoSmall : (H : Type) → List (DataW H) → Bool := fun _ ds => decide (uptoBulkAll ds ≤ 1048576)
def OpenSpec.upto (s : _root_.Go.ChangeSpec) : _root_.Go.OpenSpec := { _root_.Go.OpenSpec.ofChange s with cond := some uptoSmall }

/-- 'laws.FnExactRouteCrossings', WHERE WHAT IT READS IS OF BULK AT MOST 1048576: true; the input reads as it did. -/
def fnExactRouteCrossingsUptoRow : OpenClaim := { program := "ytghcfpnjkhefeaa", sum := "9d2b9c8a824055fd438baeae2b5ec2746aea370c0e48110d0877d8e588d2e624", func := "loop.example/g01336/laws.FnExactRouteCrossings", spec := "fnExactRouteCrossings", inPlace := ["internal/bytealg.IndexByteString"], apart := false, narrowed := true }
def FnExactRouteCrossingsUptoSaid : Prop := fnExactRouteCrossingsUptoRow.holds Try.pinned (OpenSpec.upto fnExactRouteCrossingsSpec)

/-- 'laws.FnExactFewestCrossings', WHERE WHAT IT READS IS OF BULK AT MOST 1048576: true; the input reads as it did. -/
def fnExactFewestCrossingsUptoRow : OpenClaim := { program := "ytghcfpnjkhefeaa", sum := "9d2b9c8a824055fd438baeae2b5ec2746aea370c0e48110d0877d8e588d2e624", func := "loop.example/g01336/laws.FnExactFewestCrossings", spec := "fnExactFewestCrossings", inPlace := ["internal/bytealg.IndexByteString"], apart := false, narrowed := true }
def FnExactFewestCrossingsUptoSaid : Prop := fnExactFewestCrossingsUptoRow.holds Try.pinned (OpenSpec.upto fnExactFewestCrossingsSpec)

/-- 'laws.FnExactRouteCost', WHERE WHAT IT READS IS OF BULK AT MOST 1048576: true; the input reads as it did. -/
def fnExactRouteCostUptoRow : OpenClaim := { program := "ytghcfpnjkhefeaa", sum := "9d2b9c8a824055fd438baeae2b5ec2746aea370c0e48110d0877d8e588d2e624", func := "loop.example/g01336/laws.FnExactRouteCost", spec := "fnExactRouteCost", inPlace := ["internal/bytealg.IndexByteString"], apart := false, narrowed := true }
def FnExactRouteCostUptoSaid : Prop := fnExactRouteCostUptoRow.holds Try.pinned (OpenSpec.upto fnExactRouteCostSpec)

/-- 'laws.FnExactCountRoutes', WHERE WHAT IT READS IS OF BULK AT MOST 1048576: true; the input reads as it did. -/
def fnExactCountRoutesUptoRow : OpenClaim := { program := "ytghcfpnjkhefeaa", sum := "9d2b9c8a824055fd438baeae2b5ec2746aea370c0e48110d0877d8e588d2e624", func := "loop.example/g01336/laws.FnExactCountRoutes", spec := "fnExactCountRoutes", inPlace := ["internal/bytealg.IndexByteString"], apart := false, narrowed := true }
def FnExactCountRoutesUptoSaid : Prop := fnExactCountRoutesUptoRow.holds Try.pinned (OpenSpec.upto fnExactCountRoutesSpec)

/-- 'laws.FnExactCountDelivered', WHERE WHAT IT READS IS OF BULK AT MOST 1048576: true; the input reads as it did. -/
def fnExactCountDeliveredUptoRow : OpenClaim := { program := "ytghcfpnjkhefeaa", sum := "9d2b9c8a824055fd438baeae2b5ec2746aea370c0e48110d0877d8e588d2e624", func := "loop.example/g01336/laws.FnExactCountDelivered", spec := "fnExactCountDelivered", inPlace := ["internal/bytealg.IndexByteString", "internal/bytealg.CountString", "internal/bytealg.IndexString"], named := ["internal/bytealg.MaxLen"], apart := false, narrowed := true }
def FnExactCountDeliveredUptoSaid : Prop := fnExactCountDeliveredUptoRow.holds Try.pinned (OpenSpec.upto fnExactCountDeliveredSpec)

/-- 'laws.FnExactRouteSides', WHERE WHAT IT READS IS OF BULK AT MOST 1048576: true; the input reads as it did. -/
def fnExactRouteSidesUptoRow : OpenClaim := { program := "ytghcfpnjkhefeaa", sum := "9d2b9c8a824055fd438baeae2b5ec2746aea370c0e48110d0877d8e588d2e624", func := "loop.example/g01336/laws.FnExactRouteSides", spec := "fnExactRouteSides", inPlace := ["internal/bytealg.IndexByteString"], apart := false, narrowed := true }
def FnExactRouteSidesUptoSaid : Prop := fnExactRouteSidesUptoRow.holds Try.pinned (OpenSpec.upto fnExactRouteSidesSpec)

/-- 'laws.FnExactBusiestPart', WHERE WHAT IT READS IS OF BULK AT MOST 1048576: true; the input reads as it did. -/
def fnExactBusiestPartUptoRow : OpenClaim := { program := "ytghcfpnjkhefeaa", sum := "9d2b9c8a824055fd438baeae2b5ec2746aea370c0e48110d0877d8e588d2e624", func := "loop.example/g01336/laws.FnExactBusiestPart", spec := "fnExactBusiestPart", inPlace := ["internal/bytealg.IndexByteString", "internal/bytealg.CountString", "internal/bytealg.IndexString"], named := ["internal/bytealg.MaxLen"], apart := false, narrowed := true }
def FnExactBusiestPartUptoSaid : Prop := fnExactBusiestPartUptoRow.holds Try.pinned (OpenSpec.upto fnExactBusiestPartSpec)

/-- 'laws.FnExactDeliveriesOf', WHERE WHAT IT READS IS OF BULK AT MOST 1048576: true; the input reads as it did. -/
def fnExactDeliveriesOfUptoRow : OpenClaim := { program := "ytghcfpnjkhefeaa", sum := "9d2b9c8a824055fd438baeae2b5ec2746aea370c0e48110d0877d8e588d2e624", func := "loop.example/g01336/laws.FnExactDeliveriesOf", spec := "fnExactDeliveriesOf", inPlace := ["internal/abi.NoEscape", "internal/bytealg.MakeNoZero"], apart := false, narrowed := true }
def FnExactDeliveriesOfUptoSaid : Prop := fnExactDeliveriesOfUptoRow.holds Try.pinned (OpenSpec.upto fnExactDeliveriesOfSpec)

/-- 'laws.FnExactRouteNumbers', WHERE WHAT IT READS IS OF BULK AT MOST 1048576: true; the input reads as it did. -/
def fnExactRouteNumbersUptoRow : OpenClaim := { program := "ytghcfpnjkhefeaa", sum := "9d2b9c8a824055fd438baeae2b5ec2746aea370c0e48110d0877d8e588d2e624", func := "loop.example/g01336/laws.FnExactRouteNumbers", spec := "fnExactRouteNumbers", inPlace := ["internal/bytealg.IndexByteString", "internal/bytealg.IndexString"], named := ["internal/bytealg.MaxLen"], apart := false, narrowed := true }
def FnExactRouteNumbersUptoSaid : Prop := fnExactRouteNumbersUptoRow.holds Try.pinned (OpenSpec.upto fnExactRouteNumbersSpec)

/-- 'laws.FnExactNumbersOf', WHERE WHAT IT READS IS OF BULK AT MOST 1048576: true; the input reads as it did. -/
def fnExactNumbersOfUptoRow : OpenClaim := { program := "ytghcfpnjkhefeaa", sum := "9d2b9c8a824055fd438baeae2b5ec2746aea370c0e48110d0877d8e588d2e624", func := "loop.example/g01336/laws.FnExactNumbersOf", spec := "fnExactNumbersOf", inPlace := ["internal/bytealg.IndexByteString", "internal/bytealg.IndexString"], recurses := true, named := ["internal/bytealg.MaxLen"], apart := false, narrowed := true }
def FnExactNumbersOfUptoSaid : Prop := fnExactNumbersOfUptoRow.holds Try.pinned (OpenSpec.upto fnExactNumbersOfSpec)

end Rows
end Go.Proofs.Ytghcfpnjkhefeaa
