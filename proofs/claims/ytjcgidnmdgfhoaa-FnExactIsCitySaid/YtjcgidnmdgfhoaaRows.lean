/-
  No cell of these rows narrows 'for every input' (looked for: loops, veiled, ifaces, maps, wideKeys, modest, calm, conditions, laid).
  DERIVED. THE GIVEN ROWS OF THIS SEAT. 12 by the template 'for every input the law returns true; each argument reads behind the call as it read before'; 0 by the template 'total and deterministic' (their statements: YtjcgidnmdgfhoaaTotals.lean).
  GIVEN WITH THE SEED: the statements are not yours to turn. If you find one false, say at which input.
  Laid BY PROGRAM, IN A SANDBOX (cutbox-rows.mjs): the forced cells as the released guide's own fill.sh prints them over the translation 0482fb7e3235ec77… (all of the seat's roots in one cut). By AI agents, Wed Nov 11 2026. No macro, syntax, notation, axiom, sorry.
-/
import Derived.Test.YtjcgidnmdgfhoaaChecked
import GoSem.Claim
import GoSem.ClaimJoined
import GoSem.ClaimMapViews
import Derived.JoinedTies
import Derived.KernelRfl
namespace Go.Proofs.Ytjcgidnmdgfhoaa
/- THE CELL 'sum', in the pinned program and in every row, IS THE sha256 OF THE DUMP (.gsa) THAT YtjcgidnmdgfhoaaProg.lean LOADS. Nothing in Lean hashes anything: it is a label: what it is worth is what the hold of that sum in a sandbox is worth. -/
noncomputable def Try.pinned : Pinned := { name := "ytjcgidnmdgfhoaa", sum := "0482fb7e3235ec77055d5ef8d7178fa87cc26135ef630724565c8e7d72fc1697", checked := Try.checked }
namespace Rows
def none {H : Type} : Left H := { results := [], args := [] }

/-- 'laws.FnExactIsCity': WHATEVER THE INPUT: true; the input reads as it did. -/
def fnExactIsCitySpec : ChangeSpec := { name := "fnExactIsCity", fn := fun _ => fun
  | [d] => { results := [.lit (.bool true)], args := [d] }
  | _ => none }
def fnExactIsCityRow : OpenClaim := { program := "ytjcgidnmdgfhoaa", sum := "0482fb7e3235ec77055d5ef8d7178fa87cc26135ef630724565c8e7d72fc1697", func := "loop.example/g01336/laws.FnExactIsCity", spec := "fnExactIsCity", apart := false }
def FnExactIsCitySaid : Prop := fnExactIsCityRow.holds Try.pinned (OpenSpec.ofChange fnExactIsCitySpec)

/-- ITS FALSE NEIGHBOUR: 'it returns false'. Refute it at one input. -/
def fnExactIsCityWrong : ChangeSpec := { name := "fnExactIsCity", fn := fun _ => fun
  | [d] => { results := [.lit (.bool false)], args := [d] }
  | _ => none }
def FnExactIsCityWrongFalsely : Prop := fnExactIsCityRow.holds Try.pinned (OpenSpec.ofChange fnExactIsCityWrong)

/-- 'laws.FnExactOpenBlock': WHATEVER THE INPUT: true; the input reads as it did. -/
def fnExactOpenBlockSpec : ChangeSpec := { name := "fnExactOpenBlock", fn := fun _ => fun
  | [d1, d2] => { results := [.lit (.bool true)], args := [d1, d2] }
  | _ => none }
def fnExactOpenBlockRow : OpenClaim := { program := "ytjcgidnmdgfhoaa", sum := "0482fb7e3235ec77055d5ef8d7178fa87cc26135ef630724565c8e7d72fc1697", func := "loop.example/g01336/laws.FnExactOpenBlock", spec := "fnExactOpenBlock", unfollowed := true, recurses := true, apart := false }
def FnExactOpenBlockSaid : Prop := fnExactOpenBlockRow.holds Try.pinned (OpenSpec.ofChange fnExactOpenBlockSpec)

/-- ITS FALSE NEIGHBOUR: 'it returns false'. Refute it at one input. -/
def fnExactOpenBlockWrong : ChangeSpec := { name := "fnExactOpenBlock", fn := fun _ => fun
  | [d1, d2] => { results := [.lit (.bool false)], args := [d1, d2] }
  | _ => none }
def FnExactOpenBlockWrongFalsely : Prop := fnExactOpenBlockRow.holds Try.pinned (OpenSpec.ofChange fnExactOpenBlockWrong)

/-- 'laws.FnExactWalkWord': WHATEVER THE INPUT: true; the input reads as it did. -/
def fnExactWalkWordSpec : ChangeSpec := { name := "fnExactWalkWord", fn := fun _ => fun
  | [d1, d2, d3] => { results := [.lit (.bool true)], args := [d1, d2, d3] }
  | _ => none }
def fnExactWalkWordRow : OpenClaim := { program := "ytjcgidnmdgfhoaa", sum := "0482fb7e3235ec77055d5ef8d7178fa87cc26135ef630724565c8e7d72fc1697", func := "loop.example/g01336/laws.FnExactWalkWord", spec := "fnExactWalkWord", inPlace := ["internal/bytealg.IndexByteString"], unfollowed := true, recurses := true, apart := false }
def FnExactWalkWordSaid : Prop := fnExactWalkWordRow.holds Try.pinned (OpenSpec.ofChange fnExactWalkWordSpec)

/-- ITS FALSE NEIGHBOUR: 'it returns false'. Refute it at one input. -/
def fnExactWalkWordWrong : ChangeSpec := { name := "fnExactWalkWord", fn := fun _ => fun
  | [d1, d2, d3] => { results := [.lit (.bool false)], args := [d1, d2, d3] }
  | _ => none }
def FnExactWalkWordWrongFalsely : Prop := fnExactWalkWordRow.holds Try.pinned (OpenSpec.ofChange fnExactWalkWordWrong)

/-- 'laws.FnExactIsWholeCity': WHATEVER THE INPUT: true; the input reads as it did. -/
def fnExactIsWholeCitySpec : ChangeSpec := { name := "fnExactIsWholeCity", fn := fun _ => fun
  | [d] => { results := [.lit (.bool true)], args := [d] }
  | _ => none }
def fnExactIsWholeCityRow : OpenClaim := { program := "ytjcgidnmdgfhoaa", sum := "0482fb7e3235ec77055d5ef8d7178fa87cc26135ef630724565c8e7d72fc1697", func := "loop.example/g01336/laws.FnExactIsWholeCity", spec := "fnExactIsWholeCity", unfollowed := true, recurses := true, apart := false }
def FnExactIsWholeCitySaid : Prop := fnExactIsWholeCityRow.holds Try.pinned (OpenSpec.ofChange fnExactIsWholeCitySpec)

/-- ITS FALSE NEIGHBOUR: 'it returns false'. Refute it at one input. -/
def fnExactIsWholeCityWrong : ChangeSpec := { name := "fnExactIsWholeCity", fn := fun _ => fun
  | [d] => { results := [.lit (.bool false)], args := [d] }
  | _ => none }
def FnExactIsWholeCityWrongFalsely : Prop := fnExactIsWholeCityRow.holds Try.pinned (OpenSpec.ofChange fnExactIsWholeCityWrong)

/-- 'laws.FnExactCornerDistance': WHATEVER THE INPUT: true; the input reads as it did. -/
def fnExactCornerDistanceSpec : ChangeSpec := { name := "fnExactCornerDistance", fn := fun _ => fun
  | [d1, d2, d3] => { results := [.lit (.bool true)], args := [d1, d2, d3] }
  | _ => none }
def fnExactCornerDistanceRow : OpenClaim := { program := "ytjcgidnmdgfhoaa", sum := "0482fb7e3235ec77055d5ef8d7178fa87cc26135ef630724565c8e7d72fc1697", func := "loop.example/g01336/laws.FnExactCornerDistance", spec := "fnExactCornerDistance", unfollowed := true, recurses := true, apart := false }
def FnExactCornerDistanceSaid : Prop := fnExactCornerDistanceRow.holds Try.pinned (OpenSpec.ofChange fnExactCornerDistanceSpec)

/-- ITS FALSE NEIGHBOUR: 'it returns false'. Refute it at one input. -/
def fnExactCornerDistanceWrong : ChangeSpec := { name := "fnExactCornerDistance", fn := fun _ => fun
  | [d1, d2, d3] => { results := [.lit (.bool false)], args := [d1, d2, d3] }
  | _ => none }
def FnExactCornerDistanceWrongFalsely : Prop := fnExactCornerDistanceRow.holds Try.pinned (OpenSpec.ofChange fnExactCornerDistanceWrong)

/-- 'laws.FnExactCornersReached': WHATEVER THE INPUT: true; the input reads as it did. -/
def fnExactCornersReachedSpec : ChangeSpec := { name := "fnExactCornersReached", fn := fun _ => fun
  | [d1, d2] => { results := [.lit (.bool true)], args := [d1, d2] }
  | _ => none }
def fnExactCornersReachedRow : OpenClaim := { program := "ytjcgidnmdgfhoaa", sum := "0482fb7e3235ec77055d5ef8d7178fa87cc26135ef630724565c8e7d72fc1697", func := "loop.example/g01336/laws.FnExactCornersReached", spec := "fnExactCornersReached", unfollowed := true, recurses := true, apart := false }
def FnExactCornersReachedSaid : Prop := fnExactCornersReachedRow.holds Try.pinned (OpenSpec.ofChange fnExactCornersReachedSpec)

/-- ITS FALSE NEIGHBOUR: 'it returns false'. Refute it at one input. -/
def fnExactCornersReachedWrong : ChangeSpec := { name := "fnExactCornersReached", fn := fun _ => fun
  | [d1, d2] => { results := [.lit (.bool false)], args := [d1, d2] }
  | _ => none }
def FnExactCornersReachedWrongFalsely : Prop := fnExactCornersReachedRow.holds Try.pinned (OpenSpec.ofChange fnExactCornersReachedWrong)

/-- 'laws.FnExactDetourOf': WHATEVER THE INPUT: true; the input reads as it did. -/
def fnExactDetourOfSpec : ChangeSpec := { name := "fnExactDetourOf", fn := fun _ => fun
  | [d1, d2, d3] => { results := [.lit (.bool true)], args := [d1, d2, d3] }
  | _ => none }
def fnExactDetourOfRow : OpenClaim := { program := "ytjcgidnmdgfhoaa", sum := "0482fb7e3235ec77055d5ef8d7178fa87cc26135ef630724565c8e7d72fc1697", func := "loop.example/g01336/laws.FnExactDetourOf", spec := "fnExactDetourOf", unfollowed := true, recurses := true, apart := false }
def FnExactDetourOfSaid : Prop := fnExactDetourOfRow.holds Try.pinned (OpenSpec.ofChange fnExactDetourOfSpec)

/-- ITS FALSE NEIGHBOUR: 'it returns false'. Refute it at one input. -/
def fnExactDetourOfWrong : ChangeSpec := { name := "fnExactDetourOf", fn := fun _ => fun
  | [d1, d2, d3] => { results := [.lit (.bool false)], args := [d1, d2, d3] }
  | _ => none }
def FnExactDetourOfWrongFalsely : Prop := fnExactDetourOfRow.holds Try.pinned (OpenSpec.ofChange fnExactDetourOfWrong)

/-- 'laws.FnExactFirstShortestWay': WHATEVER THE INPUT: true; the input reads as it did. -/
def fnExactFirstShortestWaySpec : ChangeSpec := { name := "fnExactFirstShortestWay", fn := fun _ => fun
  | [d1, d2, d3] => { results := [.lit (.bool true)], args := [d1, d2, d3] }
  | _ => none }
def fnExactFirstShortestWayRow : OpenClaim := { program := "ytjcgidnmdgfhoaa", sum := "0482fb7e3235ec77055d5ef8d7178fa87cc26135ef630724565c8e7d72fc1697", func := "loop.example/g01336/laws.FnExactFirstShortestWay", spec := "fnExactFirstShortestWay", unfollowed := true, recurses := true, apart := false }
def FnExactFirstShortestWaySaid : Prop := fnExactFirstShortestWayRow.holds Try.pinned (OpenSpec.ofChange fnExactFirstShortestWaySpec)

/-- ITS FALSE NEIGHBOUR: 'it returns false'. Refute it at one input. -/
def fnExactFirstShortestWayWrong : ChangeSpec := { name := "fnExactFirstShortestWay", fn := fun _ => fun
  | [d1, d2, d3] => { results := [.lit (.bool false)], args := [d1, d2, d3] }
  | _ => none }
def FnExactFirstShortestWayWrongFalsely : Prop := fnExactFirstShortestWayRow.holds Try.pinned (OpenSpec.ofChange fnExactFirstShortestWayWrong)

/-- 'laws.FnExactCountShortestWays': WHATEVER THE INPUT: true; the input reads as it did. -/
def fnExactCountShortestWaysSpec : ChangeSpec := { name := "fnExactCountShortestWays", fn := fun _ => fun
  | [d1, d2, d3] => { results := [.lit (.bool true)], args := [d1, d2, d3] }
  | _ => none }
def fnExactCountShortestWaysRow : OpenClaim := { program := "ytjcgidnmdgfhoaa", sum := "0482fb7e3235ec77055d5ef8d7178fa87cc26135ef630724565c8e7d72fc1697", func := "loop.example/g01336/laws.FnExactCountShortestWays", spec := "fnExactCountShortestWays", unfollowed := true, recurses := true, apart := false }
def FnExactCountShortestWaysSaid : Prop := fnExactCountShortestWaysRow.holds Try.pinned (OpenSpec.ofChange fnExactCountShortestWaysSpec)

/-- ITS FALSE NEIGHBOUR: 'it returns false'. Refute it at one input. -/
def fnExactCountShortestWaysWrong : ChangeSpec := { name := "fnExactCountShortestWays", fn := fun _ => fun
  | [d1, d2, d3] => { results := [.lit (.bool false)], args := [d1, d2, d3] }
  | _ => none }
def FnExactCountShortestWaysWrongFalsely : Prop := fnExactCountShortestWaysRow.holds Try.pinned (OpenSpec.ofChange fnExactCountShortestWaysWrong)

/-- 'laws.FnExactFarthestCorner': WHATEVER THE INPUT: true; the input reads as it did. -/
def fnExactFarthestCornerSpec : ChangeSpec := { name := "fnExactFarthestCorner", fn := fun _ => fun
  | [d1, d2] => { results := [.lit (.bool true)], args := [d1, d2] }
  | _ => none }
def fnExactFarthestCornerRow : OpenClaim := { program := "ytjcgidnmdgfhoaa", sum := "0482fb7e3235ec77055d5ef8d7178fa87cc26135ef630724565c8e7d72fc1697", func := "loop.example/g01336/laws.FnExactFarthestCorner", spec := "fnExactFarthestCorner", unfollowed := true, recurses := true, apart := false }
def FnExactFarthestCornerSaid : Prop := fnExactFarthestCornerRow.holds Try.pinned (OpenSpec.ofChange fnExactFarthestCornerSpec)

/-- ITS FALSE NEIGHBOUR: 'it returns false'. Refute it at one input. -/
def fnExactFarthestCornerWrong : ChangeSpec := { name := "fnExactFarthestCorner", fn := fun _ => fun
  | [d1, d2] => { results := [.lit (.bool false)], args := [d1, d2] }
  | _ => none }
def FnExactFarthestCornerWrongFalsely : Prop := fnExactFarthestCornerRow.holds Try.pinned (OpenSpec.ofChange fnExactFarthestCornerWrong)

/-- 'laws.FnExactBestToOpen': WHATEVER THE INPUT: true; the input reads as it did. -/
def fnExactBestToOpenSpec : ChangeSpec := { name := "fnExactBestToOpen", fn := fun _ => fun
  | [d1, d2, d3] => { results := [.lit (.bool true)], args := [d1, d2, d3] }
  | _ => none }
def fnExactBestToOpenRow : OpenClaim := { program := "ytjcgidnmdgfhoaa", sum := "0482fb7e3235ec77055d5ef8d7178fa87cc26135ef630724565c8e7d72fc1697", func := "loop.example/g01336/laws.FnExactBestToOpen", spec := "fnExactBestToOpen", unfollowed := true, recurses := true, apart := false }
def FnExactBestToOpenSaid : Prop := fnExactBestToOpenRow.holds Try.pinned (OpenSpec.ofChange fnExactBestToOpenSpec)

/-- ITS FALSE NEIGHBOUR: 'it returns false'. Refute it at one input. -/
def fnExactBestToOpenWrong : ChangeSpec := { name := "fnExactBestToOpen", fn := fun _ => fun
  | [d1, d2, d3] => { results := [.lit (.bool false)], args := [d1, d2, d3] }
  | _ => none }
def FnExactBestToOpenWrongFalsely : Prop := fnExactBestToOpenRow.holds Try.pinned (OpenSpec.ofChange fnExactBestToOpenWrong)

/-- 'laws.FnExactCenterCorner': WHATEVER THE INPUT: true; the input reads as it did. -/
def fnExactCenterCornerSpec : ChangeSpec := { name := "fnExactCenterCorner", fn := fun _ => fun
  | [d] => { results := [.lit (.bool true)], args := [d] }
  | _ => none }
def fnExactCenterCornerRow : OpenClaim := { program := "ytjcgidnmdgfhoaa", sum := "0482fb7e3235ec77055d5ef8d7178fa87cc26135ef630724565c8e7d72fc1697", func := "loop.example/g01336/laws.FnExactCenterCorner", spec := "fnExactCenterCorner", unfollowed := true, recurses := true, apart := false }
def FnExactCenterCornerSaid : Prop := fnExactCenterCornerRow.holds Try.pinned (OpenSpec.ofChange fnExactCenterCornerSpec)

/-- ITS FALSE NEIGHBOUR: 'it returns false'. Refute it at one input. -/
def fnExactCenterCornerWrong : ChangeSpec := { name := "fnExactCenterCorner", fn := fun _ => fun
  | [d] => { results := [.lit (.bool false)], args := [d] }
  | _ => none }
def FnExactCenterCornerWrongFalsely : Prop := fnExactCenterCornerRow.holds Try.pinned (OpenSpec.ofChange fnExactCenterCornerWrong)

/- THE SECOND FORM. 'bulk': how many values and letters a reading holds, each counted each time it is reached (what is shared counts as often as it is met; a slice's spare places count too). A statement '..UptoSaid' is the law's where the arguments, and the package variables that the reading takes, are together of bulk at most 1048576: NARROWER than '..Said'. Prove '..Said' where nothing that the law and all that it calls make is longer than what came in: it says more and counts as full. Else prove '..UptoSaid'. A law counts once. -/
mutual
def uptoBulk {H : Type} : DataW H → Nat
  | .lit (.string bytes) => bytes.length + 1
  | .lit _ => 1
  | .nil => 1
  | .ptr d => uptoBulk d + 1
  | .slice elems spare => uptoBulkAll elems + uptoBulkAll spare + 1
  | .agg parts => uptoBulkAll parts + 1
  | .iface _ d => uptoBulk d + 1
  | .map entries => uptoBulkEntries entries + 1
  | .held _ => 1
def uptoBulkAll {H : Type} : List (DataW H) → Nat
  | [] => 0
  | d :: r => uptoBulk d + uptoBulkAll r
def uptoBulkEntries {H : Type} : List (Lit × DataW H) → Nat
  | [] => 0
  | x :: r => uptoBulkEntry x + uptoBulkEntries r
def uptoBulkEntry {H : Type} : Lit × DataW H → Nat
  | (.string bytes, d) => bytes.length + uptoBulk d + 1
  | (_, d) => uptoBulk d + 1
 end
def uptoSmall : (H : Type) → List (DataW H) → Bool := fun _ ds => decide (uptoBulkAll ds ≤ 1048576)
def OpenSpec.upto (s : _root_.Go.ChangeSpec) : _root_.Go.OpenSpec := { _root_.Go.OpenSpec.ofChange s with cond := some uptoSmall }

/-- 'laws.FnExactIsCity', WHERE WHAT IT READS IS OF BULK AT MOST 1048576: true; the input reads as it did. -/
def fnExactIsCityUptoRow : OpenClaim := { program := "ytjcgidnmdgfhoaa", sum := "0482fb7e3235ec77055d5ef8d7178fa87cc26135ef630724565c8e7d72fc1697", func := "loop.example/g01336/laws.FnExactIsCity", spec := "fnExactIsCity", apart := false, narrowed := true }
def FnExactIsCityUptoSaid : Prop := fnExactIsCityUptoRow.holds Try.pinned (OpenSpec.upto fnExactIsCitySpec)

/-- 'laws.FnExactOpenBlock', WHERE WHAT IT READS IS OF BULK AT MOST 1048576: true; the input reads as it did. -/
def fnExactOpenBlockUptoRow : OpenClaim := { program := "ytjcgidnmdgfhoaa", sum := "0482fb7e3235ec77055d5ef8d7178fa87cc26135ef630724565c8e7d72fc1697", func := "loop.example/g01336/laws.FnExactOpenBlock", spec := "fnExactOpenBlock", unfollowed := true, recurses := true, apart := false, narrowed := true }
def FnExactOpenBlockUptoSaid : Prop := fnExactOpenBlockUptoRow.holds Try.pinned (OpenSpec.upto fnExactOpenBlockSpec)

/-- 'laws.FnExactWalkWord', WHERE WHAT IT READS IS OF BULK AT MOST 1048576: true; the input reads as it did. -/
def fnExactWalkWordUptoRow : OpenClaim := { program := "ytjcgidnmdgfhoaa", sum := "0482fb7e3235ec77055d5ef8d7178fa87cc26135ef630724565c8e7d72fc1697", func := "loop.example/g01336/laws.FnExactWalkWord", spec := "fnExactWalkWord", inPlace := ["internal/bytealg.IndexByteString"], unfollowed := true, recurses := true, apart := false, narrowed := true }
def FnExactWalkWordUptoSaid : Prop := fnExactWalkWordUptoRow.holds Try.pinned (OpenSpec.upto fnExactWalkWordSpec)

/-- 'laws.FnExactIsWholeCity', WHERE WHAT IT READS IS OF BULK AT MOST 1048576: true; the input reads as it did. -/
def fnExactIsWholeCityUptoRow : OpenClaim := { program := "ytjcgidnmdgfhoaa", sum := "0482fb7e3235ec77055d5ef8d7178fa87cc26135ef630724565c8e7d72fc1697", func := "loop.example/g01336/laws.FnExactIsWholeCity", spec := "fnExactIsWholeCity", unfollowed := true, recurses := true, apart := false, narrowed := true }
def FnExactIsWholeCityUptoSaid : Prop := fnExactIsWholeCityUptoRow.holds Try.pinned (OpenSpec.upto fnExactIsWholeCitySpec)

/-- 'laws.FnExactCornerDistance', WHERE WHAT IT READS IS OF BULK AT MOST 1048576: true; the input reads as it did. -/
def fnExactCornerDistanceUptoRow : OpenClaim := { program := "ytjcgidnmdgfhoaa", sum := "0482fb7e3235ec77055d5ef8d7178fa87cc26135ef630724565c8e7d72fc1697", func := "loop.example/g01336/laws.FnExactCornerDistance", spec := "fnExactCornerDistance", unfollowed := true, recurses := true, apart := false, narrowed := true }
def FnExactCornerDistanceUptoSaid : Prop := fnExactCornerDistanceUptoRow.holds Try.pinned (OpenSpec.upto fnExactCornerDistanceSpec)

/-- 'laws.FnExactCornersReached', WHERE WHAT IT READS IS OF BULK AT MOST 1048576: true; the input reads as it did. -/
def fnExactCornersReachedUptoRow : OpenClaim := { program := "ytjcgidnmdgfhoaa", sum := "0482fb7e3235ec77055d5ef8d7178fa87cc26135ef630724565c8e7d72fc1697", func := "loop.example/g01336/laws.FnExactCornersReached", spec := "fnExactCornersReached", unfollowed := true, recurses := true, apart := false, narrowed := true }
def FnExactCornersReachedUptoSaid : Prop := fnExactCornersReachedUptoRow.holds Try.pinned (OpenSpec.upto fnExactCornersReachedSpec)

/-- 'laws.FnExactDetourOf', WHERE WHAT IT READS IS OF BULK AT MOST 1048576: true; the input reads as it did. -/
def fnExactDetourOfUptoRow : OpenClaim := { program := "ytjcgidnmdgfhoaa", sum := "0482fb7e3235ec77055d5ef8d7178fa87cc26135ef630724565c8e7d72fc1697", func := "loop.example/g01336/laws.FnExactDetourOf", spec := "fnExactDetourOf", unfollowed := true, recurses := true, apart := false, narrowed := true }
def FnExactDetourOfUptoSaid : Prop := fnExactDetourOfUptoRow.holds Try.pinned (OpenSpec.upto fnExactDetourOfSpec)

/-- 'laws.FnExactFirstShortestWay', WHERE WHAT IT READS IS OF BULK AT MOST 1048576: true; the input reads as it did. -/
def fnExactFirstShortestWayUptoRow : OpenClaim := { program := "ytjcgidnmdgfhoaa", sum := "0482fb7e3235ec77055d5ef8d7178fa87cc26135ef630724565c8e7d72fc1697", func := "loop.example/g01336/laws.FnExactFirstShortestWay", spec := "fnExactFirstShortestWay", unfollowed := true, recurses := true, apart := false, narrowed := true }
def FnExactFirstShortestWayUptoSaid : Prop := fnExactFirstShortestWayUptoRow.holds Try.pinned (OpenSpec.upto fnExactFirstShortestWaySpec)

/-- 'laws.FnExactCountShortestWays', WHERE WHAT IT READS IS OF BULK AT MOST 1048576: true; the input reads as it did. -/
def fnExactCountShortestWaysUptoRow : OpenClaim := { program := "ytjcgidnmdgfhoaa", sum := "0482fb7e3235ec77055d5ef8d7178fa87cc26135ef630724565c8e7d72fc1697", func := "loop.example/g01336/laws.FnExactCountShortestWays", spec := "fnExactCountShortestWays", unfollowed := true, recurses := true, apart := false, narrowed := true }
def FnExactCountShortestWaysUptoSaid : Prop := fnExactCountShortestWaysUptoRow.holds Try.pinned (OpenSpec.upto fnExactCountShortestWaysSpec)

/-- 'laws.FnExactFarthestCorner', WHERE WHAT IT READS IS OF BULK AT MOST 1048576: true; the input reads as it did. -/
def fnExactFarthestCornerUptoRow : OpenClaim := { program := "ytjcgidnmdgfhoaa", sum := "0482fb7e3235ec77055d5ef8d7178fa87cc26135ef630724565c8e7d72fc1697", func := "loop.example/g01336/laws.FnExactFarthestCorner", spec := "fnExactFarthestCorner", unfollowed := true, recurses := true, apart := false, narrowed := true }
def FnExactFarthestCornerUptoSaid : Prop := fnExactFarthestCornerUptoRow.holds Try.pinned (OpenSpec.upto fnExactFarthestCornerSpec)

/-- 'laws.FnExactBestToOpen', WHERE WHAT IT READS IS OF BULK AT MOST 1048576: true; the input reads as it did. -/
def fnExactBestToOpenUptoRow : OpenClaim := { program := "ytjcgidnmdgfhoaa", sum := "0482fb7e3235ec77055d5ef8d7178fa87cc26135ef630724565c8e7d72fc1697", func := "loop.example/g01336/laws.FnExactBestToOpen", spec := "fnExactBestToOpen", unfollowed := true, recurses := true, apart := false, narrowed := true }
def FnExactBestToOpenUptoSaid : Prop := fnExactBestToOpenUptoRow.holds Try.pinned (OpenSpec.upto fnExactBestToOpenSpec)

/-- 'laws.FnExactCenterCorner', WHERE WHAT IT READS IS OF BULK AT MOST 1048576: true; the input reads as it did. -/
def fnExactCenterCornerUptoRow : OpenClaim := { program := "ytjcgidnmdgfhoaa", sum := "0482fb7e3235ec77055d5ef8d7178fa87cc26135ef630724565c8e7d72fc1697", func := "loop.example/g01336/laws.FnExactCenterCorner", spec := "fnExactCenterCorner", unfollowed := true, recurses := true, apart := false, narrowed := true }
def FnExactCenterCornerUptoSaid : Prop := fnExactCenterCornerUptoRow.holds Try.pinned (OpenSpec.upto fnExactCenterCornerSpec)

end Rows
end Go.Proofs.Ytjcgidnmdgfhoaa
