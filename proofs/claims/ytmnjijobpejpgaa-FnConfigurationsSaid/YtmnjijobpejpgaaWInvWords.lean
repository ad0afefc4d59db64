-- Out of the kit's printed words, without what this seat does not name.
import Derived.Test.YtmnjijobpejpgaaWInv
import Derived.Test.YtmnjijobpejpgaaWFootNe
namespace Go.Proofs.YtmnjijobpejpgaaW.PrintWords
open Go.RowKit
end Go.Proofs.YtmnjijobpejpgaaW.PrintWords
namespace Go.Proofs.YtmnjijobpejpgaaW.PrintLast
section
variable {ops : Array Oper} {a : Act} {o og : Oper} {g : Nat} {t : Tmp} {u : Bool}
end
end Go.Proofs.YtmnjijobpejpgaaW.PrintLast
