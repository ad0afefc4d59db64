/- For every input the statement FnExactJumpDown holds of what the program and the reference compute, as plain Lean functions; there is no further condition. -/
import Derived.Test.YtgigkjcfnngdmaaP1
import Derived.Test.YtgigkjcfnngdmaaP2
import Derived.Test.YtgigkjcfnngdmaaP3
import Derived.Test.YtgigkjcfnngdmaaJu
namespace Go.Proofs.Ytgigkjcfnngdmaa.Pure
open Go.RowKit Go.Proofs.Ytgigkjcfnngdmaa.P Go.Proofs.YtgigkjcfnngdmaaW.PrintWords Go.Proofs.YtgigkjcfnngdmaaW.PrintLast Go.Proofs.YtgigkjcfnngdmaaW.PrintMore

theorem FnExactJumpDown : laws_FnExactJumpDown.Pure := by
  intro x y k c _ _ _ _
  unfold laws_FnExactJumpDown.f spec_JumpDown.f impl_JumpDown.f
  simp only [juGiven_f, jumper_f, Option.bind_some]
  by_cases hg : JuGiven k c
  · by_cases hj : JuPair x y k c
    · have k1 : 0 ≤ k := by have := hg.1; omega
      have k2 : k ≤ 1000000 := by have := hg.2.1; omega
      simp only [hg, hj, juGood_f hg, impl_jumpDown_f hj.1 hj.2.1 hj.2.2.1 k1 k2, spec_juDown_f hj.1 hj.2.1 hj.2.2.1 k1 k2, Option.bind_some, decide_true, Bool.and_self, if_true]
      simp
    · simp [hg, hj, juGood_f hg]
  · simp [hg]

end Go.Proofs.Ytgigkjcfnngdmaa.Pure
