/- Printed by a program of this session (wip/xprint.py) over the kit's printer. Not trusted: Lean checks it. -/
import Derived.Test.YtnnnmhbfepcibaaProg
import Derived.Below
import Derived.Deep.Draws
import Derived.Deep.AppendLies
import Derived.Maps.AppendAt
import Derived.OwnWalk
import Derived.Laws.BytesArg
import Derived.Laws.MakeOwn
import Derived.Laws.OwnMore
import Derived.Deep.OwnRows
import Derived.Tactics
import Derived.Lib.ConvBytes
import Derived.Laws.Slices
import Derived.WalkKit
import Derived.KernelRfl
import Derived.RowKit3
import Derived.Deep.LoopGhost
import Derived.Deep.QuietTactic
import Derived.BigQuiet
import Derived.WideLaws
import Derived.Deep.DeepCutAuto
import Derived.Deep.CutBlock
import Derived.Deep.RegionHeld3
import Derived.Laws.Rows
import Derived.Lib.AppendStr
import Derived.ArgAppend
import Derived.Laws.IdiomCopy
import Derived.OrdersHeld
import Derived.Laws.BitsLemmas
import Derived.RowKit
import Derived.Test.YtnnnmhbfepcibaaWWords
import Derived.Test.YtnnnmhbfepcibaaWLast
import Derived.Test.YtnnnmhbfepcibaaWTab
import Derived.Test.YtnnnmhbfepcibaaWFour
import Derived.Test.YtnnnmhbfepcibaaWQPut
import Derived.Test.YtnnnmhbfepcibaaWApart
import Derived.Test.YtnnnmhbfepcibaaWArr
import Derived.Test.YtnnnmhbfepcibaaWZeros
import Derived.Test.YtnnnmhbfepcibaaWFoot
import Derived.Test.YtnnnmhbfepcibaaWKept
import Derived.Test.YtnnnmhbfepcibaaWShare
import Derived.Test.YtnnnmhbfepcibaaWN
import Derived.Test.YtnnnmhbfepcibaaWFootNe
import Derived.Test.YtnnnmhbfepcibaaWAt
import Derived.Test.YtnnnmhbfepcibaaWEqStruct
import Derived.Test.YtnnnmhbfepcibaaWRepsOne
import Derived.Test.YtnnnmhbfepcibaaWInv
import Derived.Test.YtnnnmhbfepcibaaWInvWords
import Derived.Test.YtnnnmhbfepcibaaWGuard
import Derived.Test.YtnnnmhbfepcibaaWNEv
import Derived.Test.YtnnnmhbfepcibaaWMore
namespace Go.Proofs.Ytnnnmhbfepcibaa.PFnExactBoxOfEach
open Go.RowKit Go.Proofs.YtnnnmhbfepcibaaW.PrintWords Go.Proofs.YtnnnmhbfepcibaaW.PrintLast Go.Proofs.YtnnnmhbfepcibaaW.PrintMore
attribute [local go_sem] max2_int min2_int max_two min_two max_three min_three max_four min_four   -- for this text's walks alone
set_option linter.unusedVariables false
set_option linter.unusedSimpArgs false



def errW : Option Int → Value
  | none => .nilIface
  | some c => .iface 0 (.int .i64 c)
theorem errW_none : errW none = .nilIface := rfl
theorem errW_some (c : Int) : errW (some c) = .iface 0 (.int .i64 c) := rfl

theorem info3 : (Try.prog.info? 3).map (fun i => (i.zero, i.size, i.bytes)) = some (some (.int .i64 0), 1, 8) := by kernel_rfl
-- the values' own types

end Go.Proofs.Ytnnnmhbfepcibaa.PFnExactBoxOfEach
