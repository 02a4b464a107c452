-- made by wip/tools/strip.py out of the kit's printed words: what this claim needs of them
import Derived.Test.YtmfhfnpinmlloaaWInv
import Derived.Test.YtmfhfnpinmlloaaWFootNe
namespace Go.Proofs.YtmfhfnpinmlloaaW.PrintWords
open Go.RowKit
end Go.Proofs.YtmfhfnpinmlloaaW.PrintWords
namespace Go.Proofs.YtmfhfnpinmlloaaW.PrintLast
section
variable {ops : Array Oper} {a : Act} {o og : Oper} {g : Nat} {t : Tmp} {u : Bool}
end
end Go.Proofs.YtmfhfnpinmlloaaW.PrintLast
