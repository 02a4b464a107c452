-- made by wip/tools/strip.py out of the kit's printed words: what this claim needs of them
import Derived.Test.YthmkclelkijhoaaDoorWWords
import Derived.Laws.StructEq
/-! ### 53. '==' of structs as_ one Bool -/
namespace Go.Proofs.YthmkclelkijhoaaDoorW.PrintWords
open Go.RowKit
section
variable {P : Program} {d : Nat} {xs ys : Array Value} {f : Field} {fs : List Field} {a b : Value} {r s : Bool} {w : World}
end
end Go.Proofs.YthmkclelkijhoaaDoorW.PrintWords
