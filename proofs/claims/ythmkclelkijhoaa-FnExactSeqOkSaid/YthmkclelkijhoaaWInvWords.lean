-- made by wip/tools/strip.py out of the kit's printed words: what this claim needs of them
import Derived.Test.YthmkclelkijhoaaWInv
import Derived.Test.YthmkclelkijhoaaWFootNe
namespace Go.Proofs.YthmkclelkijhoaaW.PrintWords
open Go.RowKit
end Go.Proofs.YthmkclelkijhoaaW.PrintWords
namespace Go.Proofs.YthmkclelkijhoaaW.PrintLast
section
variable {ops : Array Oper} {a : Act} {o og : Oper} {g : Nat} {t : Tmp} {u : Bool}
end
end Go.Proofs.YthmkclelkijhoaaW.PrintLast
