/- For every input the statement FnExactPairsUpTo holds of what the program and the reference compute, told as plain Lean functions; there is no further condition. -/
import Derived.Test.YtgigkjcfnngdmaaP22
import Derived.Test.YtgigkjcfnngdmaaP23
import Derived.Test.YtgigkjcfnngdmaaLeFnExactPairsUpTo
namespace Go.Proofs.Ytgigkjcfnngdmaa.Pure
open Go.RowKit Go.Proofs.Ytgigkjcfnngdmaa.P Go.Proofs.YtgigkjcfnngdmaaW.PrintWords Go.Proofs.YtgigkjcfnngdmaaW.PrintLast Go.Proofs.YtgigkjcfnngdmaaW.PrintMore

theorem FnExactPairsUpTo : laws_FnExactPairsUpTo.Pure := by
  intro k c m _ _ _
  obtain ⟨K, hK⟩ := pbR_ev (fun _ _ => true) false k c m (fun _ x y _ => rfl)
  have hs := pbR_size (fun _ _ => true) k c m
  have h := hK K (Nat.le_refl _)
  exact ⟨K, (pbR (fun _ _ => true) k c m).1, (pbR (fun _ _ => true) k c m).2, h, rfl, by omega, by omega⟩

end Go.Proofs.Ytgigkjcfnngdmaa.Pure
