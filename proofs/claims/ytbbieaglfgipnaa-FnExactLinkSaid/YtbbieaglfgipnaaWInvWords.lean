-- made by wip/tools/strip.py out of the kit's printed words: what this claim needs of them
import Derived.Test.YtbbieaglfgipnaaWInv
import Derived.Test.YtbbieaglfgipnaaWFootNe
namespace Go.Proofs.YtbbieaglfgipnaaW.PrintWords
open Go.RowKit
end Go.Proofs.YtbbieaglfgipnaaW.PrintWords
namespace Go.Proofs.YtbbieaglfgipnaaW.PrintLast
section
variable {ops : Array Oper} {a : Act} {o og : Oper} {g : Nat} {t : Tmp} {u : Bool}
end
end Go.Proofs.YtbbieaglfgipnaaW.PrintLast
