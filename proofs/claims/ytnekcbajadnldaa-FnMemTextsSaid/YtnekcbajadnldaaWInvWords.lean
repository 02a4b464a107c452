-- made by wip/tools/strip.py out of the kit's printed words: what this claim needs of them
import Derived.Test.YtnekcbajadnldaaWInv
import Derived.Test.YtnekcbajadnldaaWFootNe
namespace Go.Proofs.YtnekcbajadnldaaW.PrintWords
open Go.RowKit
end Go.Proofs.YtnekcbajadnldaaW.PrintWords
namespace Go.Proofs.YtnekcbajadnldaaW.PrintLast
section
variable {ops : Array Oper} {a : Act} {o og : Oper} {g : Nat} {t : Tmp} {u : Bool}
end
end Go.Proofs.YtnekcbajadnldaaW.PrintLast
