/-
  No cell of these rows narrows 'for every input' (looked for: loops, veiled, ifaces, maps, wideKeys, modest, calm, conditions, laid).
  DERIVED. THE GIVEN ROWS OF THIS SEAT. 5 by the template 'for every input the law returns true; each argument reads behind the call as it read before'; 0 by the template 'total and deterministic' (their statements: YteclefeppgoobaaTotals.lean).
  GIVEN WITH THE SEED: the statements are not yours to turn. If you find one false, say at which input.
  Laid BY PROGRAM, IN A SANDBOX (cutbox-rows.mjs): the forced cells as the released guide's own fill.sh prints them over the translation 523d4c6b22cbaa9c… (all of the seat's roots in one cut). By AI agents, Wed Nov 11 2026. No macro, syntax, notation, axiom, sorry.
-/
import Derived.Test.YteclefeppgoobaaChecked
import GoSem.Claim
import GoSem.ClaimJoined
import GoSem.ClaimMapViews
import Derived.JoinedTies
import Derived.KernelRfl
namespace Go.Proofs.Yteclefeppgoobaa
/- THE CELL 'sum', in the pinned program and in every row, IS THE sha256 OF THE DUMP (.gsa) THAT YteclefeppgoobaaProg.lean LOADS. Nothing in Lean hashes anything: it is a label: what it is worth is what the hold of that sum in a sandbox is worth. -/
noncomputable def Try.pinned : Pinned := { name := "yteclefeppgoobaa", sum := "523d4c6b22cbaa9cb5441aa7c20fbb4a7f8f53c869b73a8daa2b2c2dac4dc435", checked := Try.checked }
namespace Rows
def none {H : Type} : Left H := { results := [], args := [] }

/-- 'laws.FnExactBackWay': WHATEVER THE INPUT: true; the input reads as it did. -/
def fnExactBackWaySpec : ChangeSpec := { name := "fnExactBackWay", fn := fun _ => fun
  | [d] => { results := [.lit (.bool true)], args := [d] }
  | _ => none }
def fnExactBackWayRow : OpenClaim := { program := "yteclefeppgoobaa", sum := "523d4c6b22cbaa9cb5441aa7c20fbb4a7f8f53c869b73a8daa2b2c2dac4dc435", func := "loop.example/g01336/laws.FnExactBackWay", spec := "fnExactBackWay", inPlace := ["internal/bytealg.IndexByteString"], apart := false }
def FnExactBackWaySaid : Prop := fnExactBackWayRow.holds Try.pinned (OpenSpec.ofChange fnExactBackWaySpec)

/-- ITS FALSE NEIGHBOUR: 'it returns false'. Refute it at one input. -/
def fnExactBackWayWrong : ChangeSpec := { name := "fnExactBackWay", fn := fun _ => fun
  | [d] => { results := [.lit (.bool false)], args := [d] }
  | _ => none }
def FnExactBackWayWrongFalsely : Prop := fnExactBackWayRow.holds Try.pinned (OpenSpec.ofChange fnExactBackWayWrong)

/-- 'laws.FnExactArePeople': WHATEVER THE INPUT: true; the input reads as it did. -/
def fnExactArePeopleSpec : ChangeSpec := { name := "fnExactArePeople", fn := fun _ => fun
  | [d] => { results := [.lit (.bool true)], args := [d] }
  | _ => none }
def fnExactArePeopleRow : OpenClaim := { program := "yteclefeppgoobaa", sum := "523d4c6b22cbaa9cb5441aa7c20fbb4a7f8f53c869b73a8daa2b2c2dac4dc435", func := "loop.example/g01336/laws.FnExactArePeople", spec := "fnExactArePeople", apart := false }
def FnExactArePeopleSaid : Prop := fnExactArePeopleRow.holds Try.pinned (OpenSpec.ofChange fnExactArePeopleSpec)

/-- ITS FALSE NEIGHBOUR: 'it returns false'. Refute it at one input. -/
def fnExactArePeopleWrong : ChangeSpec := { name := "fnExactArePeople", fn := fun _ => fun
  | [d] => { results := [.lit (.bool false)], args := [d] }
  | _ => none }
def FnExactArePeopleWrongFalsely : Prop := fnExactArePeopleRow.holds Try.pinned (OpenSpec.ofChange fnExactArePeopleWrong)

/-- 'laws.FnExactMirrorDeliveries': WHATEVER THE INPUT: true; the input reads as it did. -/
def fnExactMirrorDeliveriesSpec : ChangeSpec := { name := "fnExactMirrorDeliveries", fn := fun _ => fun
  | [d] => { results := [.lit (.bool true)], args := [d] }
  | _ => none }
def fnExactMirrorDeliveriesRow : OpenClaim := { program := "yteclefeppgoobaa", sum := "523d4c6b22cbaa9cb5441aa7c20fbb4a7f8f53c869b73a8daa2b2c2dac4dc435", func := "loop.example/g01336/laws.FnExactMirrorDeliveries", spec := "fnExactMirrorDeliveries", inPlace := ["internal/bytealg.IndexByteString"], apart := false }
def FnExactMirrorDeliveriesSaid : Prop := fnExactMirrorDeliveriesRow.holds Try.pinned (OpenSpec.ofChange fnExactMirrorDeliveriesSpec)

/-- ITS FALSE NEIGHBOUR: 'it returns false'. Refute it at one input. -/
def fnExactMirrorDeliveriesWrong : ChangeSpec := { name := "fnExactMirrorDeliveries", fn := fun _ => fun
  | [d] => { results := [.lit (.bool false)], args := [d] }
  | _ => none }
def FnExactMirrorDeliveriesWrongFalsely : Prop := fnExactMirrorDeliveriesRow.holds Try.pinned (OpenSpec.ofChange fnExactMirrorDeliveriesWrong)

/-- 'laws.FnExactPeopleWithin': WHATEVER THE INPUT: true; the input reads as it did. -/
def fnExactPeopleWithinSpec : ChangeSpec := { name := "fnExactPeopleWithin", fn := fun _ => fun
  | [d1, d2, d3] => { results := [.lit (.bool true)], args := [d1, d2, d3] }
  | _ => none }
def fnExactPeopleWithinRow : OpenClaim := { program := "yteclefeppgoobaa", sum := "523d4c6b22cbaa9cb5441aa7c20fbb4a7f8f53c869b73a8daa2b2c2dac4dc435", func := "loop.example/g01336/laws.FnExactPeopleWithin", spec := "fnExactPeopleWithin", apart := false }
def FnExactPeopleWithinSaid : Prop := fnExactPeopleWithinRow.holds Try.pinned (OpenSpec.ofChange fnExactPeopleWithinSpec)

/-- ITS FALSE NEIGHBOUR: 'it returns false'. Refute it at one input. -/
def fnExactPeopleWithinWrong : ChangeSpec := { name := "fnExactPeopleWithin", fn := fun _ => fun
  | [d1, d2, d3] => { results := [.lit (.bool false)], args := [d1, d2, d3] }
  | _ => none }
def FnExactPeopleWithinWrongFalsely : Prop := fnExactPeopleWithinRow.holds Try.pinned (OpenSpec.ofChange fnExactPeopleWithinWrong)

/-- 'laws.FnExactFewestBoxes': WHATEVER THE INPUT: true; the input reads as it did. -/
def fnExactFewestBoxesSpec : ChangeSpec := { name := "fnExactFewestBoxes", fn := fun _ => fun
  | [d1, d2] => { results := [.lit (.bool true)], args := [d1, d2] }
  | _ => none }
def fnExactFewestBoxesRow : OpenClaim := { program := "yteclefeppgoobaa", sum := "523d4c6b22cbaa9cb5441aa7c20fbb4a7f8f53c869b73a8daa2b2c2dac4dc435", func := "loop.example/g01336/laws.FnExactFewestBoxes", spec := "fnExactFewestBoxes", apart := false }
def FnExactFewestBoxesSaid : Prop := fnExactFewestBoxesRow.holds Try.pinned (OpenSpec.ofChange fnExactFewestBoxesSpec)

/-- ITS FALSE NEIGHBOUR: 'it returns false'. Refute it at one input. -/
def fnExactFewestBoxesWrong : ChangeSpec := { name := "fnExactFewestBoxes", fn := fun _ => fun
  | [d1, d2] => { results := [.lit (.bool false)], args := [d1, d2] }
  | _ => none }
def FnExactFewestBoxesWrongFalsely : Prop := fnExactFewestBoxesRow.holds Try.pinned (OpenSpec.ofChange fnExactFewestBoxesWrong)

/- THE SECOND FORM. 'bulk': how many values and letters a reading holds, each counted each time it is reached (what is shared counts as often as it is met; a slice's spare places count too). A statement '..UptoSaid' is the law's where the arguments, and the package variables that the reading takes, are together of bulk at most 1048576: NARROWER than '..Said'. Prove '..Said' where nothing that the law and all that it calls make is longer than what came in: it says more and counts as full. Else prove '..UptoSaid'. A law counts once. -/
mutual
def uptoBulk {H : Type} : DataW H → Nat
  | .lit (.string bytes) => bytes.length + 1
  | .lit _ => 1
  | .nil => 1
  | .ptr d => uptoBulk d + 1
  | .slice elems spare => uptoBulkAll elems + uptoBulkAll spare + 1
  | .agg parts => uptoBulkAll parts + 1
  | .iface _ d => uptoBulk d + 1
  | .map entries => uptoBulkEntries entries + 1
  | .held _ => 1
def uptoBulkAll {H : Type} : List (DataW H) → Nat
  | [] => 0
  | d :: r => uptoBulk d + uptoBulkAll r
def uptoBulkEntries {H : Type} : List (Lit × DataW H) → Nat
  | [] => 0
  | x :: r => uptoBulkEntry x + uptoBulkEntries r
def uptoBulkEntry {H : Type} : Lit × DataW H → Nat
  | (.string bytes, d) => bytes.length + uptoBulk d + 1
  | (_, d) => uptoBulk d + 1
 end
def uptoSmall : (H : Type) → List (DataW H) → Bool := fun _ ds => decide (uptoBulkAll ds ≤ 1048576)
def OpenSpec.upto (s : _root_.Go.ChangeSpec) : _root_.Go.OpenSpec := { _root_.Go.OpenSpec.ofChange s with cond := some uptoSmall }

/-- 'laws.FnExactBackWay', WHERE WHAT IT READS IS OF BULK AT MOST 1048576: true; the input reads as it did. -/
def fnExactBackWayUptoRow : OpenClaim := { program := "yteclefeppgoobaa", sum := "523d4c6b22cbaa9cb5441aa7c20fbb4a7f8f53c869b73a8daa2b2c2dac4dc435", func := "loop.example/g01336/laws.FnExactBackWay", spec := "fnExactBackWay", inPlace := ["internal/bytealg.IndexByteString"], apart := false, narrowed := true }
def FnExactBackWayUptoSaid : Prop := fnExactBackWayUptoRow.holds Try.pinned (OpenSpec.upto fnExactBackWaySpec)

/-- 'laws.FnExactArePeople', WHERE WHAT IT READS IS OF BULK AT MOST 1048576: true; the input reads as it did. -/
def fnExactArePeopleUptoRow : OpenClaim := { program := "yteclefeppgoobaa", sum := "523d4c6b22cbaa9cb5441aa7c20fbb4a7f8f53c869b73a8daa2b2c2dac4dc435", func := "loop.example/g01336/laws.FnExactArePeople", spec := "fnExactArePeople", apart := false, narrowed := true }
def FnExactArePeopleUptoSaid : Prop := fnExactArePeopleUptoRow.holds Try.pinned (OpenSpec.upto fnExactArePeopleSpec)

/-- 'laws.FnExactMirrorDeliveries', WHERE WHAT IT READS IS OF BULK AT MOST 1048576: true; the input reads as it did. -/
def fnExactMirrorDeliveriesUptoRow : OpenClaim := { program := "yteclefeppgoobaa", sum := "523d4c6b22cbaa9cb5441aa7c20fbb4a7f8f53c869b73a8daa2b2c2dac4dc435", func := "loop.example/g01336/laws.FnExactMirrorDeliveries", spec := "fnExactMirrorDeliveries", inPlace := ["internal/bytealg.IndexByteString"], apart := false, narrowed := true }
def FnExactMirrorDeliveriesUptoSaid : Prop := fnExactMirrorDeliveriesUptoRow.holds Try.pinned (OpenSpec.upto fnExactMirrorDeliveriesSpec)

/-- 'laws.FnExactPeopleWithin', WHERE WHAT IT READS IS OF BULK AT MOST 1048576: true; the input reads as it did. -/
def fnExactPeopleWithinUptoRow : OpenClaim := { program := "yteclefeppgoobaa", sum := "523d4c6b22cbaa9cb5441aa7c20fbb4a7f8f53c869b73a8daa2b2c2dac4dc435", func := "loop.example/g01336/laws.FnExactPeopleWithin", spec := "fnExactPeopleWithin", apart := false, narrowed := true }
def FnExactPeopleWithinUptoSaid : Prop := fnExactPeopleWithinUptoRow.holds Try.pinned (OpenSpec.upto fnExactPeopleWithinSpec)

/-- 'laws.FnExactFewestBoxes', WHERE WHAT IT READS IS OF BULK AT MOST 1048576: true; the input reads as it did. -/
def fnExactFewestBoxesUptoRow : OpenClaim := { program := "yteclefeppgoobaa", sum := "523d4c6b22cbaa9cb5441aa7c20fbb4a7f8f53c869b73a8daa2b2c2dac4dc435", func := "loop.example/g01336/laws.FnExactFewestBoxes", spec := "fnExactFewestBoxes", apart := false, narrowed := true }
def FnExactFewestBoxesUptoSaid : Prop := fnExactFewestBoxesUptoRow.holds Try.pinned (OpenSpec.upto fnExactFewestBoxesSpec)

end Rows
end Go.Proofs.Yteclefeppgoobaa
