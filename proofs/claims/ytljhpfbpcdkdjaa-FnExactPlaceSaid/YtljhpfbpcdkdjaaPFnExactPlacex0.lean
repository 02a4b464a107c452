-- made by wip/tools/myprint.py out of the seat's translation
import Derived.Test.YtljhpfbpcdkdjaaProg
import Derived.Below
import Derived.Deep.Draws
import Derived.Deep.AppendLies
import Derived.Maps.AppendAt
import Derived.OwnWalk
import Derived.Laws.BytesArg
import Derived.Laws.MakeOwn
import Derived.Laws.OwnMore
import Derived.Deep.OwnRows
import Derived.Tactics
import Derived.Lib.ConvBytes
import Derived.Laws.Slices
import Derived.WalkKit
import Derived.KernelRfl
import Derived.RowKit3
import Derived.Deep.LoopGhost
import Derived.Deep.QuietTactic
import Derived.BigQuiet
import Derived.WideLaws
import Derived.Deep.DeepCutAuto
import Derived.Deep.CutBlock
import Derived.Deep.RegionHeld3
import Derived.Laws.Rows
import Derived.Lib.AppendStr
import Derived.ArgAppend
import Derived.Laws.IdiomCopy
import Derived.OrdersHeld
import Derived.Laws.BitsLemmas
import Derived.RowKit
import Derived.Lib.SliceRun
import Derived.StillTailTactics
import Derived.Test.YtljhpfbpcdkdjaaWWords
import Derived.Test.YtljhpfbpcdkdjaaWLast
import Derived.Test.YtljhpfbpcdkdjaaWTab
import Derived.Test.YtljhpfbpcdkdjaaWFour
import Derived.Test.YtljhpfbpcdkdjaaWQPut
import Derived.Test.YtljhpfbpcdkdjaaWApart
import Derived.Test.YtljhpfbpcdkdjaaWArr
import Derived.Test.YtljhpfbpcdkdjaaWZeros
import Derived.Test.YtljhpfbpcdkdjaaWFoot
import Derived.Test.YtljhpfbpcdkdjaaWKept
import Derived.Test.YtljhpfbpcdkdjaaWShare
import Derived.Test.YtljhpfbpcdkdjaaWN
import Derived.Test.YtljhpfbpcdkdjaaWFootNe
import Derived.Test.YtljhpfbpcdkdjaaWAt
import Derived.Test.YtljhpfbpcdkdjaaWEqStruct
import Derived.Test.YtljhpfbpcdkdjaaWRepsOne
import Derived.Test.YtljhpfbpcdkdjaaWInv
import Derived.Test.YtljhpfbpcdkdjaaWInvWords
import Derived.Test.YtljhpfbpcdkdjaaWGuard
import Derived.Test.YtljhpfbpcdkdjaaWNEv
import Derived.Test.YtljhpfbpcdkdjaaWMore
namespace Go.Proofs.Ytljhpfbpcdkdjaa.PFnExactPlace
open Go.RowKit Go.Proofs.YtljhpfbpcdkdjaaW.PrintWords Go.Proofs.YtljhpfbpcdkdjaaW.PrintLast Go.Proofs.YtljhpfbpcdkdjaaW.PrintMore
attribute [local go_sem] max2_int min2_int max_two min_two max_three min_three max_four min_four   -- for this text's walks alone
set_option linter.unusedVariables false
set_option linter.unusedSimpArgs false



def errW : Option Int → Value
  | none => .nilIface
  | some c => .iface 0 (.int .i64 c)
theorem errW_none : errW none = .nilIface := rfl
theorem errW_some (c : Int) : errW (some c) = .iface 0 (.int .i64 c) := rfl

theorem info3 : (Try.prog.info? 3).map (fun i => (i.zero, i.size, i.bytes)) = some (some (.int .i64 0), 1, 8) := by kernel_rfl
-- the values' own types

end Go.Proofs.Ytljhpfbpcdkdjaa.PFnExactPlace
