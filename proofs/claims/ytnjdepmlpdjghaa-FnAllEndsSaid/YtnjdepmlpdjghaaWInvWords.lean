-- made by wip/tools/strip.py out of the kit's printed words: what this claim needs of them
import Derived.Test.YtnjdepmlpdjghaaWInv
import Derived.Test.YtnjdepmlpdjghaaWFootNe
namespace Go.Proofs.YtnjdepmlpdjghaaW.PrintWords
open Go.RowKit
end Go.Proofs.YtnjdepmlpdjghaaW.PrintWords
namespace Go.Proofs.YtnjdepmlpdjghaaW.PrintLast
section
variable {ops : Array Oper} {a : Act} {o og : Oper} {g : Nat} {t : Tmp} {u : Bool}
end
end Go.Proofs.YtnjdepmlpdjghaaW.PrintLast
