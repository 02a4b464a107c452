-- made by wip/tools/strip.py out of the kit's printed words: what this claim needs of them
import Derived.Test.YtgbjengnkbomoaaWInv
import Derived.Test.YtgbjengnkbomoaaWFootNe
namespace Go.Proofs.YtgbjengnkbomoaaW.PrintWords
open Go.RowKit
end Go.Proofs.YtgbjengnkbomoaaW.PrintWords
namespace Go.Proofs.YtgbjengnkbomoaaW.PrintLast
section
variable {ops : Array Oper} {a : Act} {o og : Oper} {g : Nat} {t : Tmp} {u : Bool}
end
end Go.Proofs.YtgbjengnkbomoaaW.PrintLast
