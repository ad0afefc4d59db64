/- For every input the statement FnExactSquareQuotient holds of what the program and the reference compute, as plain Lean functions; there is no further condition. -/
import Derived.Test.YtgigkjcfnngdmaaP1
import Derived.Test.YtgigkjcfnngdmaaJu
namespace Go.Proofs.Ytgigkjcfnngdmaa.Pure
open Go.RowKit Go.Proofs.Ytgigkjcfnngdmaa.P Go.Proofs.YtgigkjcfnngdmaaW.PrintWords Go.Proofs.YtgigkjcfnngdmaaW.PrintLast Go.Proofs.YtgigkjcfnngdmaaW.PrintMore

theorem FnExactSquareQuotient : laws_FnExactSquareQuotient.Pure := by
  intro a b _ _
  have same : spec_SquareQuotient.f a b = impl_SquareQuotient.f a b := by
    unfold spec_SquareQuotient.f spec_juQuotient.f impl_SquareQuotient.f
    simp only [l1In_f, within_f, Option.bind_some]
    by_cases h : 0 ≤ a ∧ a ≤ 1000000
    · by_cases h' : 0 ≤ b ∧ b ≤ 1000000
      · simp only [h, h', and_self, decide_true, if_true]
        repeat' split
        all_goals simp_all
      · simp [h, h']
    · simp [h]
  have tells : ∃ r, impl_SquareQuotient.f a b = some r := by
    unfold impl_SquareQuotient.f
    simp only [within_f, Option.bind_some]
    by_cases h : 0 ≤ a ∧ a ≤ 1000000
    · by_cases h' : 0 ≤ b ∧ b ≤ 1000000
      · have m := mulb h.1 h.2 h'.1 h'.2
        simp only [h, h', and_self, decide_true, if_true]
        rw [wrap_id (x := a * b) (by omega) (by omega), wrap_id (x := a * b + 1) (by omega) (by omega)]
        split
        · exact ⟨_, rfl⟩
        · rw [if_neg (by omega)]
          split <;> exact ⟨_, rfl⟩
      · simp [h, h']
    · simp [h]
  obtain ⟨r, hr⟩ := tells
  unfold laws_FnExactSquareQuotient.f
  rw [same, hr]
  simp

end Go.Proofs.Ytgigkjcfnngdmaa.Pure
