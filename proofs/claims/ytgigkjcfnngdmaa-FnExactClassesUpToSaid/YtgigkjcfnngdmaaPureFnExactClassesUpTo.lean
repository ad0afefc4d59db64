/- For every input the statement FnExactClassesUpTo holds of what the program and the reference compute, told as plain Lean functions; there is no further condition. -/
import Derived.Test.YtgigkjcfnngdmaaP22
import Derived.Test.YtgigkjcfnngdmaaP25
import Derived.Test.YtgigkjcfnngdmaaLeFnExactClassesUpTo
namespace Go.Proofs.Ytgigkjcfnngdmaa.Pure
open Go.RowKit Go.Proofs.Ytgigkjcfnngdmaa.P Go.Proofs.YtgigkjcfnngdmaaW.PrintWords Go.Proofs.YtgigkjcfnngdmaaW.PrintLast Go.Proofs.YtgigkjcfnngdmaaW.PrintMore

theorem FnExactClassesUpTo : laws_FnExactClassesUpTo.Pure := by
  intro k c m _ _ _
  obtain ⟨K, hK⟩ := pbR_ev (lstB k) true k c m (fun hg x y hP => by
    obtain ⟨k1, k2, c1, c2⟩ := hg
    unfold lstB
    rw [impl_jumpDown_f (x := x) (y := y) (k := k) hP.1 hP.2.1 hP.2.2.1 (by omega) (by omega)]
    rfl)
  have hs := pbR_size (lstB k) k c m
  have h := hK K (Nat.le_refl _)
  exact ⟨K, (pbR (lstB k) k c m).1, (pbR (lstB k) k c m).2, h, rfl, by omega, by omega⟩

end Go.Proofs.Ytgigkjcfnngdmaa.Pure
