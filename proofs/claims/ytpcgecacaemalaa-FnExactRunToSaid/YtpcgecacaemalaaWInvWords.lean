-- made by wip/tools/strip.py out of the kit's printed words: what this claim needs of them
import Derived.Test.YtpcgecacaemalaaWInv
import Derived.Test.YtpcgecacaemalaaWFootNe
namespace Go.Proofs.YtpcgecacaemalaaW.PrintWords
open Go.RowKit
end Go.Proofs.YtpcgecacaemalaaW.PrintWords
namespace Go.Proofs.YtpcgecacaemalaaW.PrintLast
section
variable {ops : Array Oper} {a : Act} {o og : Oper} {g : Nat} {t : Tmp} {u : Bool}
end
end Go.Proofs.YtpcgecacaemalaaW.PrintLast
