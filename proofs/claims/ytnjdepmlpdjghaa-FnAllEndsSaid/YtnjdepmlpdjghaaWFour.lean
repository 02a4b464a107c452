-- made by wip/tools/strip.py out of the kit's printed words: what this claim needs of them
import Derived.Test.YtnjdepmlpdjghaaWTab
/-! ### 56. Four, five, six operations that may come up next, in any order -/
namespace Go.Proofs.YtnjdepmlpdjghaaW.PrintLast
section
variable {P : Program} {ops : Array Oper} {Q : Exit → Act → World → Prop} {md : Region.Mode} {S : World → Prop} {ds : List Nat} {T : Bool × List (List Nat × List Nat)}
end
end Go.Proofs.YtnjdepmlpdjghaaW.PrintLast
