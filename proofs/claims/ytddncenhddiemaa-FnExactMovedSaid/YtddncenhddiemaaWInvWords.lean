-- made by wip/tools/strip.py out of the kit's printed words: what this claim needs of them
import Derived.Test.YtddncenhddiemaaWInv
import Derived.Test.YtddncenhddiemaaWFootNe
namespace Go.Proofs.YtddncenhddiemaaW.PrintWords
open Go.RowKit
end Go.Proofs.YtddncenhddiemaaW.PrintWords
namespace Go.Proofs.YtddncenhddiemaaW.PrintLast
section
variable {ops : Array Oper} {a : Act} {o og : Oper} {g : Nat} {t : Tmp} {u : Bool}
end
end Go.Proofs.YtddncenhddiemaaW.PrintLast
