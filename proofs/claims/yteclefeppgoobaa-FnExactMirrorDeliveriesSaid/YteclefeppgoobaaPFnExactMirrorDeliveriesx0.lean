/- Printed by a program of this session (wip/xprint.py) over the kit's printer. Not trusted: Lean checks it. -/
import Derived.Test.YteclefeppgoobaaProg
import Derived.Below
import Derived.Deep.Draws
import Derived.Deep.AppendLies
import Derived.Maps.AppendAt
import Derived.OwnWalk
import Derived.Laws.BytesArg
import Derived.Laws.MakeOwn
import Derived.Laws.OwnMore
import Derived.Deep.OwnRows
import Derived.Tactics
import Derived.Lib.ConvBytes
import Derived.Laws.Slices
import Derived.WalkKit
import Derived.KernelRfl
import Derived.RowKit3
import Derived.Deep.LoopGhost
import Derived.Deep.QuietTactic
import Derived.BigQuiet
import Derived.WideLaws
import Derived.Deep.DeepCutAuto
import Derived.Deep.CutBlock
import Derived.Deep.RegionHeld3
import Derived.Laws.Rows
import Derived.Lib.AppendStr
import Derived.ArgAppend
import Derived.Laws.IdiomCopy
import Derived.OrdersHeld
import Derived.Laws.BitsLemmas
import Derived.RowKit
import Derived.Laws.BytesArg
import Derived.Lib.Bytealg
import Derived.Lib.ConvBytes
import Derived.Lib.Hide
import Derived.Lib.Slices
import Derived.Lib.Strings
import Derived.Lib.Walk
import Derived.Test.YteclefeppgoobaaWWords
import Derived.Test.YteclefeppgoobaaWLast
import Derived.Test.YteclefeppgoobaaWTab
import Derived.Test.YteclefeppgoobaaWFour
import Derived.Test.YteclefeppgoobaaWQPut
import Derived.Test.YteclefeppgoobaaWApart
import Derived.Test.YteclefeppgoobaaWArr
import Derived.Test.YteclefeppgoobaaWZeros
import Derived.Test.YteclefeppgoobaaWFoot
import Derived.Test.YteclefeppgoobaaWKept
import Derived.Test.YteclefeppgoobaaWShare
import Derived.Test.YteclefeppgoobaaWN
import Derived.Test.YteclefeppgoobaaWFootNe
import Derived.Test.YteclefeppgoobaaWAt
import Derived.Test.YteclefeppgoobaaWEqStruct
import Derived.Test.YteclefeppgoobaaWRepsOne
import Derived.Test.YteclefeppgoobaaWInv
import Derived.Test.YteclefeppgoobaaWInvWords
import Derived.Test.YteclefeppgoobaaWGuard
import Derived.Test.YteclefeppgoobaaWNEv
import Derived.Test.YteclefeppgoobaaWMore
namespace Go.Proofs.Yteclefeppgoobaa.PFnExactMirrorDeliveries
open Go.RowKit Go.Proofs.YteclefeppgoobaaW.PrintWords Go.Proofs.YteclefeppgoobaaW.PrintLast Go.Proofs.YteclefeppgoobaaW.PrintMore
attribute [local go_sem] max2_int min2_int max_two min_two max_three min_three max_four min_four   -- for this text's walks alone
set_option linter.unusedVariables false
set_option linter.unusedSimpArgs false



def errW : Option Int → Value
  | none => .nilIface
  | some c => .iface 0 (.int .i64 c)
theorem errW_none : errW none = .nilIface := rfl
theorem errW_some (c : Int) : errW (some c) = .iface 0 (.int .i64 c) := rfl

-- the values' own types

end Go.Proofs.Yteclefeppgoobaa.PFnExactMirrorDeliveries
