-- Out of the kit's printed words, without what this seat does not name.
import Derived.Test.YtdjfcddmbhfpnaaWInv
import Derived.Test.YtdjfcddmbhfpnaaWFootNe
namespace Go.Proofs.YtdjfcddmbhfpnaaW.PrintWords
open Go.RowKit
end Go.Proofs.YtdjfcddmbhfpnaaW.PrintWords
namespace Go.Proofs.YtdjfcddmbhfpnaaW.PrintLast
section
variable {ops : Array Oper} {a : Act} {o og : Oper} {g : Nat} {t : Tmp} {u : Bool}
end
end Go.Proofs.YtdjfcddmbhfpnaaW.PrintLast
