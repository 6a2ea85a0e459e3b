/-
  No cell of these rows narrows 'for every input' (looked for: loops, veiled, ifaces, maps, wideKeys, modest, calm, conditions, laid).
  DERIVED. THE GIVEN ROWS OF THIS SEAT. 10 by the template 'for every input the law returns true; each argument reads behind the call as it read before'; 0 by the template 'total and deterministic' (their statements: YtnnnmhbfepcibaaTotals.lean).
  GIVEN WITH THE SEED: the statements are not yours to turn. If you find one false, say at which input.
  Laid BY PROGRAM, IN A SANDBOX (cutbox-rows.mjs): the forced cells as the released guide's own fill.sh prints them over the translation 4ec9b5cc671fab8d… (all of the seat's roots in one cut). By AI agents, Wed Nov 11 2026. No macro, syntax, notation, axiom, sorry.
-/
import Derived.Test.YtnnnmhbfepcibaaChecked
import GoSem.Claim
import GoSem.ClaimJoined
import GoSem.ClaimMapViews
import Derived.JoinedTies
import Derived.KernelRfl
namespace Go.Proofs.Ytnnnmhbfepcibaa
/- THE CELL 'sum', in the pinned program and in every row, IS THE sha256 OF THE DUMP (.gsa) THAT YtnnnmhbfepcibaaProg.lean LOADS. Nothing in Lean hashes anything: it is a label: what it is worth is what the hold of that sum in a sandbox is worth. -/
noncomputable def Try.pinned : Pinned := { name := "ytnnnmhbfepcibaa", sum := "4ec9b5cc671fab8d69900e53512370cc459940e5fe9739af93df2260b872ec19", checked := Try.checked }
namespace Rows
def none {H : Type} : Left H := { results := [], args := [] }

/-- 'laws.FnExactMeanHouse': WHATEVER THE INPUT: true; the input reads as it did. -/
def fnExactMeanHouseSpec : ChangeSpec := { name := "fnExactMeanHouse", fn := fun _ => fun
  | [d] => { results := [.lit (.bool true)], args := [d] }
  | _ => none }
def fnExactMeanHouseRow : OpenClaim := { program := "ytnnnmhbfepcibaa", sum := "4ec9b5cc671fab8d69900e53512370cc459940e5fe9739af93df2260b872ec19", func := "loop.example/g01336/laws.FnExactMeanHouse", spec := "fnExactMeanHouse", apart := false }
def FnExactMeanHouseSaid : Prop := fnExactMeanHouseRow.holds Try.pinned (OpenSpec.ofChange fnExactMeanHouseSpec)

/-- ITS FALSE NEIGHBOUR: 'it returns false'. Refute it at one input. -/
def fnExactMeanHouseWrong : ChangeSpec := { name := "fnExactMeanHouse", fn := fun _ => fun
  | [d] => { results := [.lit (.bool false)], args := [d] }
  | _ => none }
def FnExactMeanHouseWrongFalsely : Prop := fnExactMeanHouseRow.holds Try.pinned (OpenSpec.ofChange fnExactMeanHouseWrong)

/-- 'laws.FnExactFarthestTo': WHATEVER THE INPUT: true; the input reads as it did. -/
def fnExactFarthestToSpec : ChangeSpec := { name := "fnExactFarthestTo", fn := fun _ => fun
  | [d1, d2] => { results := [.lit (.bool true)], args := [d1, d2] }
  | _ => none }
def fnExactFarthestToRow : OpenClaim := { program := "ytnnnmhbfepcibaa", sum := "4ec9b5cc671fab8d69900e53512370cc459940e5fe9739af93df2260b872ec19", func := "loop.example/g01336/laws.FnExactFarthestTo", spec := "fnExactFarthestTo", apart := false }
def FnExactFarthestToSaid : Prop := fnExactFarthestToRow.holds Try.pinned (OpenSpec.ofChange fnExactFarthestToSpec)

/-- ITS FALSE NEIGHBOUR: 'it returns false'. Refute it at one input. -/
def fnExactFarthestToWrong : ChangeSpec := { name := "fnExactFarthestTo", fn := fun _ => fun
  | [d1, d2] => { results := [.lit (.bool false)], args := [d1, d2] }
  | _ => none }
def FnExactFarthestToWrongFalsely : Prop := fnExactFarthestToRow.holds Try.pinned (OpenSpec.ofChange fnExactFarthestToWrong)

/-- 'laws.FnExactWalksTo': WHATEVER THE INPUT: true; the input reads as it did. -/
def fnExactWalksToSpec : ChangeSpec := { name := "fnExactWalksTo", fn := fun _ => fun
  | [d1, d2] => { results := [.lit (.bool true)], args := [d1, d2] }
  | _ => none }
def fnExactWalksToRow : OpenClaim := { program := "ytnnnmhbfepcibaa", sum := "4ec9b5cc671fab8d69900e53512370cc459940e5fe9739af93df2260b872ec19", func := "loop.example/g01336/laws.FnExactWalksTo", spec := "fnExactWalksTo", apart := false }
def FnExactWalksToSaid : Prop := fnExactWalksToRow.holds Try.pinned (OpenSpec.ofChange fnExactWalksToSpec)

/-- ITS FALSE NEIGHBOUR: 'it returns false'. Refute it at one input. -/
def fnExactWalksToWrong : ChangeSpec := { name := "fnExactWalksTo", fn := fun _ => fun
  | [d1, d2] => { results := [.lit (.bool false)], args := [d1, d2] }
  | _ => none }
def FnExactWalksToWrongFalsely : Prop := fnExactWalksToRow.holds Try.pinned (OpenSpec.ofChange fnExactWalksToWrong)

/-- 'laws.FnExactMirrorPeople': WHATEVER THE INPUT: true; the input reads as it did. -/
def fnExactMirrorPeopleSpec : ChangeSpec := { name := "fnExactMirrorPeople", fn := fun _ => fun
  | [d] => { results := [.lit (.bool true)], args := [d] }
  | _ => none }
def fnExactMirrorPeopleRow : OpenClaim := { program := "ytnnnmhbfepcibaa", sum := "4ec9b5cc671fab8d69900e53512370cc459940e5fe9739af93df2260b872ec19", func := "loop.example/g01336/laws.FnExactMirrorPeople", spec := "fnExactMirrorPeople", apart := false }
def FnExactMirrorPeopleSaid : Prop := fnExactMirrorPeopleRow.holds Try.pinned (OpenSpec.ofChange fnExactMirrorPeopleSpec)

/-- ITS FALSE NEIGHBOUR: 'it returns false'. Refute it at one input. -/
def fnExactMirrorPeopleWrong : ChangeSpec := { name := "fnExactMirrorPeople", fn := fun _ => fun
  | [d] => { results := [.lit (.bool false)], args := [d] }
  | _ => none }
def FnExactMirrorPeopleWrongFalsely : Prop := fnExactMirrorPeopleRow.holds Try.pinned (OpenSpec.ofChange fnExactMirrorPeopleWrong)

/-- 'laws.FnExactMovedPeople': WHATEVER THE INPUT: true; the input reads as it did. -/
def fnExactMovedPeopleSpec : ChangeSpec := { name := "fnExactMovedPeople", fn := fun _ => fun
  | [d1, d2, d3, d4] => { results := [.lit (.bool true)], args := [d1, d2, d3, d4] }
  | _ => none }
def fnExactMovedPeopleRow : OpenClaim := { program := "ytnnnmhbfepcibaa", sum := "4ec9b5cc671fab8d69900e53512370cc459940e5fe9739af93df2260b872ec19", func := "loop.example/g01336/laws.FnExactMovedPeople", spec := "fnExactMovedPeople", apart := false }
def FnExactMovedPeopleSaid : Prop := fnExactMovedPeopleRow.holds Try.pinned (OpenSpec.ofChange fnExactMovedPeopleSpec)

/-- ITS FALSE NEIGHBOUR: 'it returns false'. Refute it at one input. -/
def fnExactMovedPeopleWrong : ChangeSpec := { name := "fnExactMovedPeople", fn := fun _ => fun
  | [d1, d2, d3, d4] => { results := [.lit (.bool false)], args := [d1, d2, d3, d4] }
  | _ => none }
def FnExactMovedPeopleWrongFalsely : Prop := fnExactMovedPeopleRow.holds Try.pinned (OpenSpec.ofChange fnExactMovedPeopleWrong)

/-- 'laws.FnExactFarthestBoxes': WHATEVER THE INPUT: true; the input reads as it did. -/
def fnExactFarthestBoxesSpec : ChangeSpec := { name := "fnExactFarthestBoxes", fn := fun _ => fun
  | [d1, d2] => { results := [.lit (.bool true)], args := [d1, d2] }
  | _ => none }
def fnExactFarthestBoxesRow : OpenClaim := { program := "ytnnnmhbfepcibaa", sum := "4ec9b5cc671fab8d69900e53512370cc459940e5fe9739af93df2260b872ec19", func := "loop.example/g01336/laws.FnExactFarthestBoxes", spec := "fnExactFarthestBoxes", apart := false }
def FnExactFarthestBoxesSaid : Prop := fnExactFarthestBoxesRow.holds Try.pinned (OpenSpec.ofChange fnExactFarthestBoxesSpec)

/-- ITS FALSE NEIGHBOUR: 'it returns false'. Refute it at one input. -/
def fnExactFarthestBoxesWrong : ChangeSpec := { name := "fnExactFarthestBoxes", fn := fun _ => fun
  | [d1, d2] => { results := [.lit (.bool false)], args := [d1, d2] }
  | _ => none }
def FnExactFarthestBoxesWrongFalsely : Prop := fnExactFarthestBoxesRow.holds Try.pinned (OpenSpec.ofChange fnExactFarthestBoxesWrong)

/-- 'laws.FnExactBoxesSum': WHATEVER THE INPUT: true; the input reads as it did. -/
def fnExactBoxesSumSpec : ChangeSpec := { name := "fnExactBoxesSum", fn := fun _ => fun
  | [d1, d2] => { results := [.lit (.bool true)], args := [d1, d2] }
  | _ => none }
def fnExactBoxesSumRow : OpenClaim := { program := "ytnnnmhbfepcibaa", sum := "4ec9b5cc671fab8d69900e53512370cc459940e5fe9739af93df2260b872ec19", func := "loop.example/g01336/laws.FnExactBoxesSum", spec := "fnExactBoxesSum", apart := false }
def FnExactBoxesSumSaid : Prop := fnExactBoxesSumRow.holds Try.pinned (OpenSpec.ofChange fnExactBoxesSumSpec)

/-- ITS FALSE NEIGHBOUR: 'it returns false'. Refute it at one input. -/
def fnExactBoxesSumWrong : ChangeSpec := { name := "fnExactBoxesSum", fn := fun _ => fun
  | [d1, d2] => { results := [.lit (.bool false)], args := [d1, d2] }
  | _ => none }
def FnExactBoxesSumWrongFalsely : Prop := fnExactBoxesSumRow.holds Try.pinned (OpenSpec.ofChange fnExactBoxesSumWrong)

/-- 'laws.FnExactSumTable': WHATEVER THE INPUT: true; the input reads as it did. -/
def fnExactSumTableSpec : ChangeSpec := { name := "fnExactSumTable", fn := fun _ => fun
  | [d] => { results := [.lit (.bool true)], args := [d] }
  | _ => none }
def fnExactSumTableRow : OpenClaim := { program := "ytnnnmhbfepcibaa", sum := "4ec9b5cc671fab8d69900e53512370cc459940e5fe9739af93df2260b872ec19", func := "loop.example/g01336/laws.FnExactSumTable", spec := "fnExactSumTable", apart := false }
def FnExactSumTableSaid : Prop := fnExactSumTableRow.holds Try.pinned (OpenSpec.ofChange fnExactSumTableSpec)

/-- ITS FALSE NEIGHBOUR: 'it returns false'. Refute it at one input. -/
def fnExactSumTableWrong : ChangeSpec := { name := "fnExactSumTable", fn := fun _ => fun
  | [d] => { results := [.lit (.bool false)], args := [d] }
  | _ => none }
def FnExactSumTableWrongFalsely : Prop := fnExactSumTableRow.holds Try.pinned (OpenSpec.ofChange fnExactSumTableWrong)

/-- 'laws.FnExactBoxOfEach': WHATEVER THE INPUT: true; the input reads as it did. -/
def fnExactBoxOfEachSpec : ChangeSpec := { name := "fnExactBoxOfEach", fn := fun _ => fun
  | [d1, d2] => { results := [.lit (.bool true)], args := [d1, d2] }
  | _ => none }
def fnExactBoxOfEachRow : OpenClaim := { program := "ytnnnmhbfepcibaa", sum := "4ec9b5cc671fab8d69900e53512370cc459940e5fe9739af93df2260b872ec19", func := "loop.example/g01336/laws.FnExactBoxOfEach", spec := "fnExactBoxOfEach", apart := false }
def FnExactBoxOfEachSaid : Prop := fnExactBoxOfEachRow.holds Try.pinned (OpenSpec.ofChange fnExactBoxOfEachSpec)

/-- ITS FALSE NEIGHBOUR: 'it returns false'. Refute it at one input. -/
def fnExactBoxOfEachWrong : ChangeSpec := { name := "fnExactBoxOfEach", fn := fun _ => fun
  | [d1, d2] => { results := [.lit (.bool false)], args := [d1, d2] }
  | _ => none }
def FnExactBoxOfEachWrongFalsely : Prop := fnExactBoxOfEachRow.holds Try.pinned (OpenSpec.ofChange fnExactBoxOfEachWrong)

/-- 'laws.FnNoBetterHouse': WHATEVER THE INPUT: true; the input reads as it did. -/
def fnNoBetterHouseSpec : ChangeSpec := { name := "fnNoBetterHouse", fn := fun _ => fun
  | [d1, d2] => { results := [.lit (.bool true)], args := [d1, d2] }
  | _ => none }
def fnNoBetterHouseRow : OpenClaim := { program := "ytnnnmhbfepcibaa", sum := "4ec9b5cc671fab8d69900e53512370cc459940e5fe9739af93df2260b872ec19", func := "loop.example/g01336/laws.FnNoBetterHouse", spec := "fnNoBetterHouse", unfollowed := true, recurses := true, apart := false }
def FnNoBetterHouseSaid : Prop := fnNoBetterHouseRow.holds Try.pinned (OpenSpec.ofChange fnNoBetterHouseSpec)

/-- ITS FALSE NEIGHBOUR: 'it returns false'. Refute it at one input. -/
def fnNoBetterHouseWrong : ChangeSpec := { name := "fnNoBetterHouse", fn := fun _ => fun
  | [d1, d2] => { results := [.lit (.bool false)], args := [d1, d2] }
  | _ => none }
def FnNoBetterHouseWrongFalsely : Prop := fnNoBetterHouseRow.holds Try.pinned (OpenSpec.ofChange fnNoBetterHouseWrong)

/- THE SECOND FORM. 'bulk': how many values and letters a reading holds, each counted each time it is reached (what is shared counts as often as it is met; a slice's spare places count too). A statement '..UptoSaid' is the law's where the arguments, and the package variables that the reading takes, are together of bulk at most 1048576: NARROWER than '..Said'. Prove '..Said' where nothing that the law and all that it calls make is longer than what came in: it says more and counts as full. Else prove '..UptoSaid'. A law counts once. -/
mutual
def uptoBulk {H : Type} : DataW H → Nat
  | .lit (.string bytes) => bytes.length + 1
  | .lit _ => 1
  | .nil => 1
  | .ptr d => uptoBulk d + 1
  | .slice elems spare => uptoBulkAll elems + uptoBulkAll spare + 1
  | .agg parts => uptoBulkAll parts + 1
  | .iface _ d => uptoBulk d + 1
  | .map entries => uptoBulkEntries entries + 1
  | .held _ => 1
def uptoBulkAll {H : Type} : List (DataW H) → Nat
  | [] => 0
  | d :: r => uptoBulk d + uptoBulkAll r
def uptoBulkEntries {H : Type} : List (Lit × DataW H) → Nat
  | [] => 0
  | x :: r => uptoBulkEntry x + uptoBulkEntries r
def uptoBulkEntry {H : Type} : Lit × DataW H → Nat
  | (.string bytes, d) => bytes.length + uptoBulk d + 1
  | (_, d) => uptoBulk d + 1
 end
def uptoSmall : (H : Type) → List (DataW H) → Bool := fun _ ds => decide (uptoBulkAll ds ≤ 1048576)
def OpenSpec.upto (s : _root_.Go.ChangeSpec) : _root_.Go.OpenSpec := { _root_.Go.OpenSpec.ofChange s with cond := some uptoSmall }

/-- 'laws.FnExactMeanHouse', WHERE WHAT IT READS IS OF BULK AT MOST 1048576: true; the input reads as it did. -/
def fnExactMeanHouseUptoRow : OpenClaim := { program := "ytnnnmhbfepcibaa", sum := "4ec9b5cc671fab8d69900e53512370cc459940e5fe9739af93df2260b872ec19", func := "loop.example/g01336/laws.FnExactMeanHouse", spec := "fnExactMeanHouse", apart := false, narrowed := true }
def FnExactMeanHouseUptoSaid : Prop := fnExactMeanHouseUptoRow.holds Try.pinned (OpenSpec.upto fnExactMeanHouseSpec)

/-- 'laws.FnExactFarthestTo', WHERE WHAT IT READS IS OF BULK AT MOST 1048576: true; the input reads as it did. -/
def fnExactFarthestToUptoRow : OpenClaim := { program := "ytnnnmhbfepcibaa", sum := "4ec9b5cc671fab8d69900e53512370cc459940e5fe9739af93df2260b872ec19", func := "loop.example/g01336/laws.FnExactFarthestTo", spec := "fnExactFarthestTo", apart := false, narrowed := true }
def FnExactFarthestToUptoSaid : Prop := fnExactFarthestToUptoRow.holds Try.pinned (OpenSpec.upto fnExactFarthestToSpec)

/-- 'laws.FnExactWalksTo', WHERE WHAT IT READS IS OF BULK AT MOST 1048576: true; the input reads as it did. -/
def fnExactWalksToUptoRow : OpenClaim := { program := "ytnnnmhbfepcibaa", sum := "4ec9b5cc671fab8d69900e53512370cc459940e5fe9739af93df2260b872ec19", func := "loop.example/g01336/laws.FnExactWalksTo", spec := "fnExactWalksTo", apart := false, narrowed := true }
def FnExactWalksToUptoSaid : Prop := fnExactWalksToUptoRow.holds Try.pinned (OpenSpec.upto fnExactWalksToSpec)

/-- 'laws.FnExactMirrorPeople', WHERE WHAT IT READS IS OF BULK AT MOST 1048576: true; the input reads as it did. -/
def fnExactMirrorPeopleUptoRow : OpenClaim := { program := "ytnnnmhbfepcibaa", sum := "4ec9b5cc671fab8d69900e53512370cc459940e5fe9739af93df2260b872ec19", func := "loop.example/g01336/laws.FnExactMirrorPeople", spec := "fnExactMirrorPeople", apart := false, narrowed := true }
def FnExactMirrorPeopleUptoSaid : Prop := fnExactMirrorPeopleUptoRow.holds Try.pinned (OpenSpec.upto fnExactMirrorPeopleSpec)

/-- 'laws.FnExactMovedPeople', WHERE WHAT IT READS IS OF BULK AT MOST 1048576: true; the input reads as it did. -/
def fnExactMovedPeopleUptoRow : OpenClaim := { program := "ytnnnmhbfepcibaa", sum := "4ec9b5cc671fab8d69900e53512370cc459940e5fe9739af93df2260b872ec19", func := "loop.example/g01336/laws.FnExactMovedPeople", spec := "fnExactMovedPeople", apart := false, narrowed := true }
def FnExactMovedPeopleUptoSaid : Prop := fnExactMovedPeopleUptoRow.holds Try.pinned (OpenSpec.upto fnExactMovedPeopleSpec)

/-- 'laws.FnExactFarthestBoxes', WHERE WHAT IT READS IS OF BULK AT MOST 1048576: true; the input reads as it did. -/
def fnExactFarthestBoxesUptoRow : OpenClaim := { program := "ytnnnmhbfepcibaa", sum := "4ec9b5cc671fab8d69900e53512370cc459940e5fe9739af93df2260b872ec19", func := "loop.example/g01336/laws.FnExactFarthestBoxes", spec := "fnExactFarthestBoxes", apart := false, narrowed := true }
def FnExactFarthestBoxesUptoSaid : Prop := fnExactFarthestBoxesUptoRow.holds Try.pinned (OpenSpec.upto fnExactFarthestBoxesSpec)

/-- 'laws.FnExactBoxesSum', WHERE WHAT IT READS IS OF BULK AT MOST 1048576: true; the input reads as it did. -/
def fnExactBoxesSumUptoRow : OpenClaim := { program := "ytnnnmhbfepcibaa", sum := "4ec9b5cc671fab8d69900e53512370cc459940e5fe9739af93df2260b872ec19", func := "loop.example/g01336/laws.FnExactBoxesSum", spec := "fnExactBoxesSum", apart := false, narrowed := true }
def FnExactBoxesSumUptoSaid : Prop := fnExactBoxesSumUptoRow.holds Try.pinned (OpenSpec.upto fnExactBoxesSumSpec)

/-- 'laws.FnExactSumTable', WHERE WHAT IT READS IS OF BULK AT MOST 1048576: true; the input reads as it did. -/
def fnExactSumTableUptoRow : OpenClaim := { program := "ytnnnmhbfepcibaa", sum := "4ec9b5cc671fab8d69900e53512370cc459940e5fe9739af93df2260b872ec19", func := "loop.example/g01336/laws.FnExactSumTable", spec := "fnExactSumTable", apart := false, narrowed := true }
def FnExactSumTableUptoSaid : Prop := fnExactSumTableUptoRow.holds Try.pinned (OpenSpec.upto fnExactSumTableSpec)

/-- 'laws.FnExactBoxOfEach', WHERE WHAT IT READS IS OF BULK AT MOST 1048576: true; the input reads as it did. -/
def fnExactBoxOfEachUptoRow : OpenClaim := { program := "ytnnnmhbfepcibaa", sum := "4ec9b5cc671fab8d69900e53512370cc459940e5fe9739af93df2260b872ec19", func := "loop.example/g01336/laws.FnExactBoxOfEach", spec := "fnExactBoxOfEach", apart := false, narrowed := true }
def FnExactBoxOfEachUptoSaid : Prop := fnExactBoxOfEachUptoRow.holds Try.pinned (OpenSpec.upto fnExactBoxOfEachSpec)

/-- 'laws.FnNoBetterHouse', WHERE WHAT IT READS IS OF BULK AT MOST 1048576: true; the input reads as it did. -/
def fnNoBetterHouseUptoRow : OpenClaim := { program := "ytnnnmhbfepcibaa", sum := "4ec9b5cc671fab8d69900e53512370cc459940e5fe9739af93df2260b872ec19", func := "loop.example/g01336/laws.FnNoBetterHouse", spec := "fnNoBetterHouse", unfollowed := true, recurses := true, apart := false, narrowed := true }
def FnNoBetterHouseUptoSaid : Prop := fnNoBetterHouseUptoRow.holds Try.pinned (OpenSpec.upto fnNoBetterHouseSpec)

end Rows
end Go.Proofs.Ytnnnmhbfepcibaa
