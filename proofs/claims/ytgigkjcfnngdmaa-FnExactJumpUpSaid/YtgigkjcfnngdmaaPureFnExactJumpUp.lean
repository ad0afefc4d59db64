/- For every input the statement FnExactJumpUp holds of what the program and the reference compute, as plain Lean functions; there is no further condition. -/
import Derived.Test.YtgigkjcfnngdmaaP1
import Derived.Test.YtgigkjcfnngdmaaP2
import Derived.Test.YtgigkjcfnngdmaaP3
import Derived.Test.YtgigkjcfnngdmaaJu
namespace Go.Proofs.Ytgigkjcfnngdmaa.Pure
open Go.RowKit Go.Proofs.Ytgigkjcfnngdmaa.P Go.Proofs.YtgigkjcfnngdmaaW.PrintWords Go.Proofs.YtgigkjcfnngdmaaW.PrintLast Go.Proofs.YtgigkjcfnngdmaaW.PrintMore

theorem FnExactJumpUp : laws_FnExactJumpUp.Pure := by
  intro x y k c _ _ _ _
  unfold laws_FnExactJumpUp.f spec_JumpUp.f impl_JumpUp.f
  simp only [juGiven_f, jumper_f, Option.bind_some]
  by_cases hg : JuGiven k c
  · by_cases hj : JuPair x y k c
    · have d := mulb (show 0 ≤ k by have := hg.1; omega) hg.2.1 (show 0 ≤ x by have := hj.1; have := hj.2.1; omega) hj.2.2.1
      have h1 := hj.1
      have h2 := hj.2.1
      have h3 := hj.2.2.1
      simp only [hg, hj, juGood_f hg, impl_jumpUp_f hj.1 hj.2.1 hj.2.2.1 (show 0 ≤ k by have := hg.1; omega) (show k ≤ 1000000 by have := hg.2.1; omega), l1In_f, Option.bind_some, decide_true, Bool.and_self, if_true]
      rw [wrap_id (x := k * x) (by omega) (by omega), wrap_id (x := k * x - y) (by omega) (by omega)]
      unfold upR
      by_cases h : x ≤ k * x - y ∧ k * x - y ≤ 1000000 <;> simp [h]
    · simp [hg, hj, juGood_f hg]
  · simp [hg]

end Go.Proofs.Ytgigkjcfnngdmaa.Pure
