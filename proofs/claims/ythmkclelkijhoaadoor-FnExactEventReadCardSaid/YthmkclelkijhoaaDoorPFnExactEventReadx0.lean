-- made by wip/tools/myprint.py out of the seat's translation
import Derived.Test.YthmkclelkijhoaaDoorProg
import Derived.Below
import Derived.Deep.Draws
import Derived.Deep.AppendLies
import Derived.Maps.AppendAt
import Derived.OwnWalk
import Derived.Laws.BytesArg
import Derived.Laws.MakeOwn
import Derived.Laws.OwnMore
import Derived.Deep.OwnRows
import Derived.Tactics
import Derived.Lib.ConvBytes
import Derived.Laws.Slices
import Derived.WalkKit
import Derived.KernelRfl
import Derived.RowKit3
import Derived.Deep.LoopGhost
import Derived.Deep.QuietTactic
import Derived.BigQuiet
import Derived.WideLaws
import Derived.Deep.DeepCutAuto
import Derived.Deep.CutBlock
import Derived.Deep.RegionHeld3
import Derived.Laws.Rows
import Derived.Lib.AppendStr
import Derived.ArgAppend
import Derived.Laws.IdiomCopy
import Derived.OrdersHeld
import Derived.Laws.BitsLemmas
import Derived.RowKit
import Derived.Lib.SliceRun
import Derived.StillTailTactics
import Derived.Test.YthmkclelkijhoaaDoorWWords
import Derived.Test.YthmkclelkijhoaaDoorWLast
import Derived.Test.YthmkclelkijhoaaDoorWTab
import Derived.Test.YthmkclelkijhoaaDoorWFour
import Derived.Test.YthmkclelkijhoaaDoorWQPut
import Derived.Test.YthmkclelkijhoaaDoorWApart
import Derived.Test.YthmkclelkijhoaaDoorWArr
import Derived.Test.YthmkclelkijhoaaDoorWZeros
import Derived.Test.YthmkclelkijhoaaDoorWFoot
import Derived.Test.YthmkclelkijhoaaDoorWKept
import Derived.Test.YthmkclelkijhoaaDoorWShare
import Derived.Test.YthmkclelkijhoaaDoorWN
import Derived.Test.YthmkclelkijhoaaDoorWFootNe
import Derived.Test.YthmkclelkijhoaaDoorWAt
import Derived.Test.YthmkclelkijhoaaDoorWEqStruct
import Derived.Test.YthmkclelkijhoaaDoorWRepsOne
import Derived.Test.YthmkclelkijhoaaDoorWInv
import Derived.Test.YthmkclelkijhoaaDoorWInvWords
import Derived.Test.YthmkclelkijhoaaDoorWGuard
import Derived.Test.YthmkclelkijhoaaDoorWNEv
import Derived.Test.YthmkclelkijhoaaDoorWMore
namespace Go.Proofs.YthmkclelkijhoaaDoor.PFnExactEventRead
open Go.RowKit Go.Proofs.YthmkclelkijhoaaDoorW.PrintWords Go.Proofs.YthmkclelkijhoaaDoorW.PrintLast Go.Proofs.YthmkclelkijhoaaDoorW.PrintMore
attribute [local go_sem] max2_int min2_int max_two min_two max_three min_three max_four min_four   -- for this text's walks alone
set_option linter.unusedVariables false
set_option linter.unusedSimpArgs false



def errW : Option Int → Value
  | none => .nilIface
  | some c => .iface 0 (.int .i64 c)
theorem errW_none : errW none = .nilIface := rfl
theorem errW_some (c : Int) : errW (some c) = .iface 0 (.int .i64 c) := rfl

theorem info5 : (Tryd.prog.info? 5).map (fun i => (i.zero, i.size, i.bytes)) = some (some (.int .u8 0), 1, 1) := by kernel_rfl
theorem info9 : (Tryd.prog.info? 9).map (fun i => (i.zero, i.size, i.bytes)) = some (some (.string ⟨#[]⟩), 1, 16) := by kernel_rfl
-- the values' own types

end Go.Proofs.YthmkclelkijhoaaDoor.PFnExactEventRead
