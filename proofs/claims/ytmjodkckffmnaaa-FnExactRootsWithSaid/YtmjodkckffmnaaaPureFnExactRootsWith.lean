/- For every input the statement FnExactRootsWith holds of what the program and the reference compute, told as plain Lean functions; there is no further condition. -/
import Derived.Test.YtmjodkckffmnaaaP2
import Derived.Test.YtmjodkckffmnaaaP7
import Derived.Test.YtmjodkckffmnaaaP30
import Derived.Test.YtmjodkckffmnaaaP33
import Derived.Test.YtmjodkckffmnaaaLeFnExactRootsWith
namespace Go.Proofs.Ytmjodkckffmnaaa.Pure
open Go.RowKit Go.Proofs.Ytmjodkckffmnaaa.P Go.Proofs.YtmjodkckffmnaaaW.PrintWords Go.Proofs.YtmjodkckffmnaaaW.PrintLast Go.Proofs.YtmjodkckffmnaaaW.PrintMore

theorem FnExactRootsWith : laws_FnExactRootsWith.Pure := by
  intro a0 hw
  by_cases h : 1 ≤ a0 ∧ a0 ≤ 30
  · obtain ⟨n, rfl⟩ : ∃ n : Nat, a0 = n := ⟨a0.toNat, by omega⟩
    obtain ⟨h1, h2, h3, h4⟩ := tab_all n (by omega) (by omega)
    refine ⟨4000, tab n, true, ?_, ?_, by omega, by omega⟩
    · unfold spec_RootsWith.f
      rw [l1In_f, inB_of h]
      simp only [Option.bind_some, if_true, h1]
    · unfold impl_RootsWith.f
      rw [within_f, inB_of h]
      simp only [Option.bind_some, if_true, h2, slices_Clone_int_int_96.f]
      rw [if_pos (by omega)]
      rfl
  · refine ⟨20, [], false, ?_, ?_, by simp, by simp [cellsOf]⟩
    · unfold spec_RootsWith.f
      rw [l1In_f, inB_not h]
      rfl
    · unfold impl_RootsWith.f
      rw [within_f, inB_not h]
      rfl

end Go.Proofs.Ytmjodkckffmnaaa.Pure
