-- made by wip/tools/strip.py out of the kit's printed words: what this claim needs of them
import Derived.Test.YthmkclelkijhoaaDoorWInv
import Derived.Test.YthmkclelkijhoaaDoorWFootNe
namespace Go.Proofs.YthmkclelkijhoaaDoorW.PrintWords
open Go.RowKit
end Go.Proofs.YthmkclelkijhoaaDoorW.PrintWords
namespace Go.Proofs.YthmkclelkijhoaaDoorW.PrintLast
section
variable {ops : Array Oper} {a : Act} {o og : Oper} {g : Nat} {t : Tmp} {u : Bool}
end
end Go.Proofs.YthmkclelkijhoaaDoorW.PrintLast
