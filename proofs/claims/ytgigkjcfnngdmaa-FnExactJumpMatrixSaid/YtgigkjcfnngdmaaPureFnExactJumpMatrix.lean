/- For every input the statement FnExactJumpMatrix holds of what the program and the reference compute, told as plain Lean functions; there is no further condition. -/
import Derived.Test.YtgigkjcfnngdmaaP8
import Derived.Test.YtgigkjcfnngdmaaP12
import Derived.Test.YtgigkjcfnngdmaaP14
import Derived.Test.YtgigkjcfnngdmaaLeFnExactJumpMatrix
namespace Go.Proofs.Ytgigkjcfnngdmaa.Pure
open Go.RowKit Go.Proofs.Ytgigkjcfnngdmaa.P Go.Proofs.YtgigkjcfnngdmaaW.PrintWords Go.Proofs.YtgigkjcfnngdmaaW.PrintLast Go.Proofs.YtgigkjcfnngdmaaW.PrintMore

theorem FnExactJumpMatrix : laws_FnExactJumpMatrix.Pure := by
  intro k hw
  unfold spec_JumpMatrix.f impl_JumpMatrix.f
  simp only [l1In_f, within_f, Option.bind_some]
  generalize decide (1 ≤ k ∧ k ≤ 1000) = t
  cases t with
  | true => exact ⟨_, _, rfl, rfl, by simp, by simp [cellsOf]⟩
  | false => exact ⟨_, _, rfl, rfl, by simp, by simp [cellsOf]⟩

end Go.Proofs.Ytgigkjcfnngdmaa.Pure
