-- made by wip/tools/strip.py out of the kit's printed words: what this claim needs of them
import Derived.Test.YtaakcbgpmabaaaaDoorWInv
import Derived.Test.YtaakcbgpmabaaaaDoorWFootNe
namespace Go.Proofs.YtaakcbgpmabaaaaDoorW.PrintWords
open Go.RowKit
end Go.Proofs.YtaakcbgpmabaaaaDoorW.PrintWords
namespace Go.Proofs.YtaakcbgpmabaaaaDoorW.PrintLast
section
variable {ops : Array Oper} {a : Act} {o og : Oper} {g : Nat} {t : Tmp} {u : Bool}
end
end Go.Proofs.YtaakcbgpmabaaaaDoorW.PrintLast
