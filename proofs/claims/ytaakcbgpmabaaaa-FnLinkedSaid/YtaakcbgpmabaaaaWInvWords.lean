-- made by wip/tools/strip.py out of the kit's printed words: what this claim needs of them
import Derived.Test.YtaakcbgpmabaaaaWInv
import Derived.Test.YtaakcbgpmabaaaaWFootNe
namespace Go.Proofs.YtaakcbgpmabaaaaW.PrintWords
open Go.RowKit
end Go.Proofs.YtaakcbgpmabaaaaW.PrintWords
namespace Go.Proofs.YtaakcbgpmabaaaaW.PrintLast
section
variable {ops : Array Oper} {a : Act} {o og : Oper} {g : Nat} {t : Tmp} {u : Bool}
end
end Go.Proofs.YtaakcbgpmabaaaaW.PrintLast
