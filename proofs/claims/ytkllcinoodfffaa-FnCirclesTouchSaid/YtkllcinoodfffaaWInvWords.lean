-- Out of the kit's printed words, without what this seat does not name.
import Derived.Test.YtkllcinoodfffaaWInv
import Derived.Test.YtkllcinoodfffaaWFootNe
namespace Go.Proofs.YtkllcinoodfffaaW.PrintWords
open Go.RowKit
end Go.Proofs.YtkllcinoodfffaaW.PrintWords
namespace Go.Proofs.YtkllcinoodfffaaW.PrintLast
section
variable {ops : Array Oper} {a : Act} {o og : Oper} {g : Nat} {t : Tmp} {u : Bool}
end
end Go.Proofs.YtkllcinoodfffaaW.PrintLast
