-- Out of the kit's printed words, without what this seat does not name.
import Derived.Test.YtkllcinoodfffaaWWords
/-! ### 58. A guarded operation whose guard is known to want it: the same goal without the guard -/
namespace Go.Proofs.YtkllcinoodfffaaW.PrintWords
open Go.RowKit
section
variable {P : Program} {ops : Array Oper} {rest : List Oper} {o : Oper} {a : Act} {Q : Exit → Act → World → Prop} {W : World}
end
end Go.Proofs.YtkllcinoodfffaaW.PrintWords
