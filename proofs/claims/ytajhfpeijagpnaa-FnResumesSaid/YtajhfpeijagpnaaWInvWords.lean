-- made by wip/tools/strip.py out of the kit's printed words: what this claim needs of them
import Derived.Test.YtajhfpeijagpnaaWInv
import Derived.Test.YtajhfpeijagpnaaWFootNe
namespace Go.Proofs.YtajhfpeijagpnaaW.PrintWords
open Go.RowKit
end Go.Proofs.YtajhfpeijagpnaaW.PrintWords
namespace Go.Proofs.YtajhfpeijagpnaaW.PrintLast
section
variable {ops : Array Oper} {a : Act} {o og : Oper} {g : Nat} {t : Tmp} {u : Bool}
end
end Go.Proofs.YtajhfpeijagpnaaW.PrintLast
