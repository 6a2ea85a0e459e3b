/-
  No cell of these rows narrows 'for every input' (looked for: loops, veiled, ifaces, maps, wideKeys, modest, calm, conditions, laid).
  DERIVED. THE GIVEN ROWS OF THIS SEAT. 6 by the template 'for every input the law returns true; each argument reads behind the call as it read before'; 0 by the template 'total and deterministic' (their statements: YtpedofomfhmnfaaTotals.lean).
  GIVEN WITH THE SEED: the statements are not yours to turn. If you find one false, say at which input.
  Laid BY PROGRAM, IN A SANDBOX (cutbox-rows.mjs): the forced cells as the released guide's own fill.sh prints them over the translation c32d92b24d93fc87… (all of the seat's roots in one cut). By AI agents, Wed Nov 11 2026. No macro, syntax, notation, axiom, sorry.
-/
import Derived.Test.YtpedofomfhmnfaaChecked
import GoSem.Claim
import GoSem.ClaimJoined
import GoSem.ClaimMapViews
import Derived.JoinedTies
import Derived.KernelRfl
namespace Go.Proofs.Ytpedofomfhmnfaa
/- THE CELL 'sum', in the pinned program and in every row, IS THE sha256 OF THE DUMP (.gsa) THAT YtpedofomfhmnfaaProg.lean LOADS. Nothing in Lean hashes anything: it is a label: what it is worth is what the hold of that sum in a sandbox is worth. -/
noncomputable def Try.pinned : Pinned := { name := "ytpedofomfhmnfaa", sum := "c32d92b24d93fc8796e5e1061814911fc68de00e0d58e3bf104f70522fb574cf", checked := Try.checked }
namespace Rows
def none {H : Type} : Left H := { results := [], args := [] }

/-- 'laws.FnExactFirstShortestWay': WHATEVER THE INPUT: true; the input reads as it did. -/
def fnExactFirstShortestWaySpec : ChangeSpec := { name := "fnExactFirstShortestWay", fn := fun _ => fun
  | [d1, d2, d3] => { results := [.lit (.bool true)], args := [d1, d2, d3] }
  | _ => none }
def fnExactFirstShortestWayRow : OpenClaim := { program := "ytpedofomfhmnfaa", sum := "c32d92b24d93fc8796e5e1061814911fc68de00e0d58e3bf104f70522fb574cf", func := "loop.example/g01336/laws.FnExactFirstShortestWay", spec := "fnExactFirstShortestWay", unfollowed := true, recurses := true, apart := false }
def FnExactFirstShortestWaySaid : Prop := fnExactFirstShortestWayRow.holds Try.pinned (OpenSpec.ofChange fnExactFirstShortestWaySpec)

/-- ITS FALSE NEIGHBOUR: 'it returns false'. Refute it at one input. -/
def fnExactFirstShortestWayWrong : ChangeSpec := { name := "fnExactFirstShortestWay", fn := fun _ => fun
  | [d1, d2, d3] => { results := [.lit (.bool false)], args := [d1, d2, d3] }
  | _ => none }
def FnExactFirstShortestWayWrongFalsely : Prop := fnExactFirstShortestWayRow.holds Try.pinned (OpenSpec.ofChange fnExactFirstShortestWayWrong)

/-- 'laws.FnExactCountShortestWays': WHATEVER THE INPUT: true; the input reads as it did. -/
def fnExactCountShortestWaysSpec : ChangeSpec := { name := "fnExactCountShortestWays", fn := fun _ => fun
  | [d1, d2, d3] => { results := [.lit (.bool true)], args := [d1, d2, d3] }
  | _ => none }
def fnExactCountShortestWaysRow : OpenClaim := { program := "ytpedofomfhmnfaa", sum := "c32d92b24d93fc8796e5e1061814911fc68de00e0d58e3bf104f70522fb574cf", func := "loop.example/g01336/laws.FnExactCountShortestWays", spec := "fnExactCountShortestWays", unfollowed := true, recurses := true, apart := false }
def FnExactCountShortestWaysSaid : Prop := fnExactCountShortestWaysRow.holds Try.pinned (OpenSpec.ofChange fnExactCountShortestWaysSpec)

/-- ITS FALSE NEIGHBOUR: 'it returns false'. Refute it at one input. -/
def fnExactCountShortestWaysWrong : ChangeSpec := { name := "fnExactCountShortestWays", fn := fun _ => fun
  | [d1, d2, d3] => { results := [.lit (.bool false)], args := [d1, d2, d3] }
  | _ => none }
def FnExactCountShortestWaysWrongFalsely : Prop := fnExactCountShortestWaysRow.holds Try.pinned (OpenSpec.ofChange fnExactCountShortestWaysWrong)

/-- 'laws.FnExactNeededBlocks': WHATEVER THE INPUT: true; the input reads as it did. -/
def fnExactNeededBlocksSpec : ChangeSpec := { name := "fnExactNeededBlocks", fn := fun _ => fun
  | [d1, d2, d3] => { results := [.lit (.bool true)], args := [d1, d2, d3] }
  | _ => none }
def fnExactNeededBlocksRow : OpenClaim := { program := "ytpedofomfhmnfaa", sum := "c32d92b24d93fc8796e5e1061814911fc68de00e0d58e3bf104f70522fb574cf", func := "loop.example/g01336/laws.FnExactNeededBlocks", spec := "fnExactNeededBlocks", unfollowed := true, recurses := true, apart := false }
def FnExactNeededBlocksSaid : Prop := fnExactNeededBlocksRow.holds Try.pinned (OpenSpec.ofChange fnExactNeededBlocksSpec)

/-- ITS FALSE NEIGHBOUR: 'it returns false'. Refute it at one input. -/
def fnExactNeededBlocksWrong : ChangeSpec := { name := "fnExactNeededBlocks", fn := fun _ => fun
  | [d1, d2, d3] => { results := [.lit (.bool false)], args := [d1, d2, d3] }
  | _ => none }
def FnExactNeededBlocksWrongFalsely : Prop := fnExactNeededBlocksRow.holds Try.pinned (OpenSpec.ofChange fnExactNeededBlocksWrong)

/-- 'laws.FnExactMeetingCorner': WHATEVER THE INPUT: true; the input reads as it did. -/
def fnExactMeetingCornerSpec : ChangeSpec := { name := "fnExactMeetingCorner", fn := fun _ => fun
  | [d1, d2] => { results := [.lit (.bool true)], args := [d1, d2] }
  | _ => none }
def fnExactMeetingCornerRow : OpenClaim := { program := "ytpedofomfhmnfaa", sum := "c32d92b24d93fc8796e5e1061814911fc68de00e0d58e3bf104f70522fb574cf", func := "loop.example/g01336/laws.FnExactMeetingCorner", spec := "fnExactMeetingCorner", unfollowed := true, recurses := true, apart := false }
def FnExactMeetingCornerSaid : Prop := fnExactMeetingCornerRow.holds Try.pinned (OpenSpec.ofChange fnExactMeetingCornerSpec)

/-- ITS FALSE NEIGHBOUR: 'it returns false'. Refute it at one input. -/
def fnExactMeetingCornerWrong : ChangeSpec := { name := "fnExactMeetingCorner", fn := fun _ => fun
  | [d1, d2] => { results := [.lit (.bool false)], args := [d1, d2] }
  | _ => none }
def FnExactMeetingCornerWrongFalsely : Prop := fnExactMeetingCornerRow.holds Try.pinned (OpenSpec.ofChange fnExactMeetingCornerWrong)

/-- 'laws.FnExactMirrorCity': WHATEVER THE INPUT: true; the input reads as it did. -/
def fnExactMirrorCitySpec : ChangeSpec := { name := "fnExactMirrorCity", fn := fun _ => fun
  | [d] => { results := [.lit (.bool true)], args := [d] }
  | _ => none }
def fnExactMirrorCityRow : OpenClaim := { program := "ytpedofomfhmnfaa", sum := "c32d92b24d93fc8796e5e1061814911fc68de00e0d58e3bf104f70522fb574cf", func := "loop.example/g01336/laws.FnExactMirrorCity", spec := "fnExactMirrorCity", unfollowed := true, recurses := true, apart := false }
def FnExactMirrorCitySaid : Prop := fnExactMirrorCityRow.holds Try.pinned (OpenSpec.ofChange fnExactMirrorCitySpec)

/-- ITS FALSE NEIGHBOUR: 'it returns false'. Refute it at one input. -/
def fnExactMirrorCityWrong : ChangeSpec := { name := "fnExactMirrorCity", fn := fun _ => fun
  | [d] => { results := [.lit (.bool false)], args := [d] }
  | _ => none }
def FnExactMirrorCityWrongFalsely : Prop := fnExactMirrorCityRow.holds Try.pinned (OpenSpec.ofChange fnExactMirrorCityWrong)

/-- 'laws.FnExactCloseBlock': WHATEVER THE INPUT: true; the input reads as it did. -/
def fnExactCloseBlockSpec : ChangeSpec := { name := "fnExactCloseBlock", fn := fun _ => fun
  | [d1, d2] => { results := [.lit (.bool true)], args := [d1, d2] }
  | _ => none }
def fnExactCloseBlockRow : OpenClaim := { program := "ytpedofomfhmnfaa", sum := "c32d92b24d93fc8796e5e1061814911fc68de00e0d58e3bf104f70522fb574cf", func := "loop.example/g01336/laws.FnExactCloseBlock", spec := "fnExactCloseBlock", unfollowed := true, recurses := true, apart := false }
def FnExactCloseBlockSaid : Prop := fnExactCloseBlockRow.holds Try.pinned (OpenSpec.ofChange fnExactCloseBlockSpec)

/-- ITS FALSE NEIGHBOUR: 'it returns false'. Refute it at one input. -/
def fnExactCloseBlockWrong : ChangeSpec := { name := "fnExactCloseBlock", fn := fun _ => fun
  | [d1, d2] => { results := [.lit (.bool false)], args := [d1, d2] }
  | _ => none }
def FnExactCloseBlockWrongFalsely : Prop := fnExactCloseBlockRow.holds Try.pinned (OpenSpec.ofChange fnExactCloseBlockWrong)

/- THE SECOND FORM. 'bulk': how many values and letters a reading holds, each counted each time it is reached (what is shared counts as often as it is met; a slice's spare places count too). A statement '..UptoSaid' is the law's where the arguments, and the package variables that the reading takes, are together of bulk at most 1048576: NARROWER than '..Said'. Prove '..Said' where nothing that the law and all that it calls make is longer than what came in: it says more and counts as full. Else prove '..UptoSaid'. A law counts once. -/
mutual
def uptoBulk {H : Type} : DataW H → Nat
  | .lit (.string bytes) => bytes.length + 1
  | .lit _ => 1
  | .nil => 1
  | .ptr d => uptoBulk d + 1
  | .slice elems spare => uptoBulkAll elems + uptoBulkAll spare + 1
  | .agg parts => uptoBulkAll parts + 1
  | .iface _ d => uptoBulk d + 1
  | .map entries => uptoBulkEntries entries + 1
  | .held _ => 1
def uptoBulkAll {H : Type} : List (DataW H) → Nat
  | [] => 0
  | d :: r => uptoBulk d + uptoBulkAll r
def uptoBulkEntries {H : Type} : List (Lit × DataW H) → Nat
  | [] => 0
  | x :: r => uptoBulkEntry x + uptoBulkEntries r
def uptoBulkEntry {H : Type} : Lit × DataW H → Nat
  | (.string bytes, d) => bytes.length + uptoBulk d + 1
  | (_, d) => uptoBulk d + 1
 end
def uptoSmall : (H : Type) → List (DataW H) → Bool := fun _ ds => decide (uptoBulkAll ds ≤ 1048576)
def OpenSpec.upto (s : _root_.Go.ChangeSpec) : _root_.Go.OpenSpec := { _root_.Go.OpenSpec.ofChange s with cond := some uptoSmall }

/-- 'laws.FnExactFirstShortestWay', WHERE WHAT IT READS IS OF BULK AT MOST 1048576: true; the input reads as it did. -/
def fnExactFirstShortestWayUptoRow : OpenClaim := { program := "ytpedofomfhmnfaa", sum := "c32d92b24d93fc8796e5e1061814911fc68de00e0d58e3bf104f70522fb574cf", func := "loop.example/g01336/laws.FnExactFirstShortestWay", spec := "fnExactFirstShortestWay", unfollowed := true, recurses := true, apart := false, narrowed := true }
def FnExactFirstShortestWayUptoSaid : Prop := fnExactFirstShortestWayUptoRow.holds Try.pinned (OpenSpec.upto fnExactFirstShortestWaySpec)

/-- 'laws.FnExactCountShortestWays', WHERE WHAT IT READS IS OF BULK AT MOST 1048576: true; the input reads as it did. -/
def fnExactCountShortestWaysUptoRow : OpenClaim := { program := "ytpedofomfhmnfaa", sum := "c32d92b24d93fc8796e5e1061814911fc68de00e0d58e3bf104f70522fb574cf", func := "loop.example/g01336/laws.FnExactCountShortestWays", spec := "fnExactCountShortestWays", unfollowed := true, recurses := true, apart := false, narrowed := true }
def FnExactCountShortestWaysUptoSaid : Prop := fnExactCountShortestWaysUptoRow.holds Try.pinned (OpenSpec.upto fnExactCountShortestWaysSpec)

/-- 'laws.FnExactNeededBlocks', WHERE WHAT IT READS IS OF BULK AT MOST 1048576: true; the input reads as it did. -/
def fnExactNeededBlocksUptoRow : OpenClaim := { program := "ytpedofomfhmnfaa", sum := "c32d92b24d93fc8796e5e1061814911fc68de00e0d58e3bf104f70522fb574cf", func := "loop.example/g01336/laws.FnExactNeededBlocks", spec := "fnExactNeededBlocks", unfollowed := true, recurses := true, apart := false, narrowed := true }
def FnExactNeededBlocksUptoSaid : Prop := fnExactNeededBlocksUptoRow.holds Try.pinned (OpenSpec.upto fnExactNeededBlocksSpec)

/-- 'laws.FnExactMeetingCorner', WHERE WHAT IT READS IS OF BULK AT MOST 1048576: true; the input reads as it did. -/
def fnExactMeetingCornerUptoRow : OpenClaim := { program := "ytpedofomfhmnfaa", sum := "c32d92b24d93fc8796e5e1061814911fc68de00e0d58e3bf104f70522fb574cf", func := "loop.example/g01336/laws.FnExactMeetingCorner", spec := "fnExactMeetingCorner", unfollowed := true, recurses := true, apart := false, narrowed := true }
def FnExactMeetingCornerUptoSaid : Prop := fnExactMeetingCornerUptoRow.holds Try.pinned (OpenSpec.upto fnExactMeetingCornerSpec)

/-- 'laws.FnExactMirrorCity', WHERE WHAT IT READS IS OF BULK AT MOST 1048576: true; the input reads as it did. -/
def fnExactMirrorCityUptoRow : OpenClaim := { program := "ytpedofomfhmnfaa", sum := "c32d92b24d93fc8796e5e1061814911fc68de00e0d58e3bf104f70522fb574cf", func := "loop.example/g01336/laws.FnExactMirrorCity", spec := "fnExactMirrorCity", unfollowed := true, recurses := true, apart := false, narrowed := true }
def FnExactMirrorCityUptoSaid : Prop := fnExactMirrorCityUptoRow.holds Try.pinned (OpenSpec.upto fnExactMirrorCitySpec)

/-- 'laws.FnExactCloseBlock', WHERE WHAT IT READS IS OF BULK AT MOST 1048576: true; the input reads as it did. -/
def fnExactCloseBlockUptoRow : OpenClaim := { program := "ytpedofomfhmnfaa", sum := "c32d92b24d93fc8796e5e1061814911fc68de00e0d58e3bf104f70522fb574cf", func := "loop.example/g01336/laws.FnExactCloseBlock", spec := "fnExactCloseBlock", unfollowed := true, recurses := true, apart := false, narrowed := true }
def FnExactCloseBlockUptoSaid : Prop := fnExactCloseBlockUptoRow.holds Try.pinned (OpenSpec.upto fnExactCloseBlockSpec)

end Rows
end Go.Proofs.Ytpedofomfhmnfaa
