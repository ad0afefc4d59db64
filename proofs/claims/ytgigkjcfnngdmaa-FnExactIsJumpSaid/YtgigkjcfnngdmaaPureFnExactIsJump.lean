/- For every input the statement FnExactIsJump holds of what the program and the reference compute, as plain Lean functions; there is no further condition. -/
import Derived.Test.YtgigkjcfnngdmaaP1
import Derived.Test.YtgigkjcfnngdmaaP2
import Derived.Test.YtgigkjcfnngdmaaP3
import Derived.Test.YtgigkjcfnngdmaaJu
namespace Go.Proofs.Ytgigkjcfnngdmaa.Pure
open Go.RowKit Go.Proofs.Ytgigkjcfnngdmaa.P Go.Proofs.YtgigkjcfnngdmaaW.PrintWords Go.Proofs.YtgigkjcfnngdmaaW.PrintLast Go.Proofs.YtgigkjcfnngdmaaW.PrintMore

theorem FnExactIsJump : laws_FnExactIsJump.Pure := by
  intro x y k c _ _ _ _
  unfold laws_FnExactIsJump.f spec_IsJump.f impl_IsJump.f
  simp only [juGiven_f, areConstants_f, Option.bind_some]
  by_cases hg : JuGiven k c
  · simp [hg, juGood_f hg, isJump_f hg]
  · simp [hg]

end Go.Proofs.Ytgigkjcfnngdmaa.Pure
