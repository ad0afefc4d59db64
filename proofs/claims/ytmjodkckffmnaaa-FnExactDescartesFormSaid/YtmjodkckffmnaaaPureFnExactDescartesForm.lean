/- For every input the statement FnExactDescartesForm holds of what the program and the reference compute, told as plain Lean functions; there is no further condition. -/
import Derived.Test.YtmjodkckffmnaaaP12
import Derived.Test.YtmjodkckffmnaaaP14
namespace Go.Proofs.Ytmjodkckffmnaaa.Pure
open Go.RowKit Go.Proofs.Ytmjodkckffmnaaa.P Go.Proofs.YtmjodkckffmnaaaW.PrintWords Go.Proofs.YtmjodkckffmnaaaW.PrintLast Go.Proofs.YtmjodkckffmnaaaW.PrintMore

theorem FnExactDescartesForm : laws_FnExactDescartesForm.Pure :=
  ⟨60, [[-1, 1, 1, 1], [1, -1, 1, 1], [1, 1, -1, 1], [1, 1, 1, -1]], by kernel_rfl, by kernel_rfl, by simp, by simp [cellsOf]⟩

end Go.Proofs.Ytmjodkckffmnaaa.Pure
