/- For every input the statement FnExactRightUpTo holds of what the program and the reference compute, told as plain Lean functions; there is no further condition. -/
import Derived.Test.YtmjgklpccdigfaaP11
import Derived.Test.YtmjgklpccdigfaaP34
import Derived.Test.YtmjgklpccdigfaaP36
import Derived.Test.YtmjgklpccdigfaaLeFnExactRightUpTo
namespace Go.Proofs.Ytmjgklpccdigfaa.Pure
open Go.RowKit Go.Proofs.Ytmjgklpccdigfaa.P Go.Proofs.YtmjgklpccdigfaaW.PrintWords Go.Proofs.YtmjgklpccdigfaaW.PrintLast Go.Proofs.YtmjgklpccdigfaaW.PrintMore

theorem cells3 : ∀ l : List (List Int), (∀ x ∈ l, x.length = 3) → cellsOf l = 3 * l.length
  | [], _ => rfl
  | x :: t, h => by
    have h1 := h x (by simp)
    have h2 := cells3 t (fun y hy => h y (by simp [hy]))
    simp only [cellsOf, List.length_cons]
    omega
theorem FnExactRightUpTo : laws_FnExactRightUpTo.Pure := by
  intro a0 hw
  obtain ⟨r, b, h1, h2, h3, h4, _⟩ := right_both a0
  obtain ⟨k, k1, k2⟩ := together (fun k => spec_RightUpTo.mono a0 k) (fun k => impl_RightUpTo.mono a0 k) h1.rounds h2.rounds
  have := cells3 r h4
  exact ⟨k, r, b, k1, k2, by omega, by omega⟩

end Go.Proofs.Ytmjgklpccdigfaa.Pure
