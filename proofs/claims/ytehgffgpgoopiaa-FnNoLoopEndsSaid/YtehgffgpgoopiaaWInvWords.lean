-- made by wip/tools/strip.py out of the kit's printed words: what this claim needs of them
import Derived.Test.YtehgffgpgoopiaaWInv
import Derived.Test.YtehgffgpgoopiaaWFootNe
namespace Go.Proofs.YtehgffgpgoopiaaW.PrintWords
open Go.RowKit
end Go.Proofs.YtehgffgpgoopiaaW.PrintWords
namespace Go.Proofs.YtehgffgpgoopiaaW.PrintLast
section
variable {ops : Array Oper} {a : Act} {o og : Oper} {g : Nat} {t : Tmp} {u : Bool}
end
end Go.Proofs.YtehgffgpgoopiaaW.PrintLast
