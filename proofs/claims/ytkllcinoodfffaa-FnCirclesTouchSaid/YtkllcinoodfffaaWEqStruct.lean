-- Out of the kit's printed words, without what this seat does not name.
import Derived.Test.YtkllcinoodfffaaWWords
import Derived.Laws.StructEq
/-! ### 53. '==' of structs as_ one Bool -/
namespace Go.Proofs.YtkllcinoodfffaaW.PrintWords
open Go.RowKit
section
variable {P : Program} {d : Nat} {xs ys : Array Value} {f : Field} {fs : List Field} {a b : Value} {r s : Bool} {w : World}
end
end Go.Proofs.YtkllcinoodfffaaW.PrintWords
