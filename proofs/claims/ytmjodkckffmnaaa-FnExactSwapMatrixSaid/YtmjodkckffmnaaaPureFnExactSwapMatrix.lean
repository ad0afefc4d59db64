/- For every input the statement FnExactSwapMatrix holds of what the program and the reference compute, told as plain Lean functions; there is no further condition. -/
import Derived.Test.YtmjodkckffmnaaaP3
import Derived.Test.YtmjodkckffmnaaaP12
import Derived.Test.YtmjodkckffmnaaaP19
import Derived.Test.YtmjodkckffmnaaaP20
import Derived.Test.YtmjodkckffmnaaaLeFnExactSwapMatrix
namespace Go.Proofs.Ytmjodkckffmnaaa.Pure
open Go.RowKit Go.Proofs.Ytmjodkckffmnaaa.P Go.Proofs.YtmjodkckffmnaaaW.PrintWords Go.Proofs.YtmjodkckffmnaaaW.PrintLast Go.Proofs.YtmjodkckffmnaaaW.PrintMore

theorem swapMatrix_in (a0 : Int) (h : 0 ≤ a0 ∧ a0 ≤ 3) : ∃ r, spec_SwapMatrix.f 20 a0 = some (r, true) ∧ impl_SwapMatrix.f a0 = some (r, true) ∧ (r.length : Int) ≤ 9223372036854775806 ∧ (cellsOf r : Int) + 1 ≤ 4611686018427387904 := by
  have h4 : a0 = 0 ∨ a0 = 1 ∨ a0 = 2 ∨ a0 = 3 := by omega
  rcases h4 with rfl | rfl | rfl | rfl
  · exact ⟨[[-1, 2, 2, 2], [0, 1, 0, 0], [0, 0, 1, 0], [0, 0, 0, 1]], by kernel_rfl, by kernel_rfl, by simp, by simp [cellsOf]⟩
  · exact ⟨[[1, 0, 0, 0], [2, -1, 2, 2], [0, 0, 1, 0], [0, 0, 0, 1]], by kernel_rfl, by kernel_rfl, by simp, by simp [cellsOf]⟩
  · exact ⟨[[1, 0, 0, 0], [0, 1, 0, 0], [2, 2, -1, 2], [0, 0, 0, 1]], by kernel_rfl, by kernel_rfl, by simp, by simp [cellsOf]⟩
  · exact ⟨[[1, 0, 0, 0], [0, 1, 0, 0], [0, 0, 1, 0], [2, 2, 2, -1]], by kernel_rfl, by kernel_rfl, by simp, by simp [cellsOf]⟩
theorem FnExactSwapMatrix : laws_FnExactSwapMatrix.Pure := by
  intro a0 hw
  by_cases h : 0 ≤ a0 ∧ a0 ≤ 3
  · obtain ⟨r, h1, h2, h3, h4⟩ := swapMatrix_in a0 h
    exact ⟨20, r, true, h1, h2, h3, h4⟩
  · refine ⟨20, [], false, ?_, ?_, by simp, by simp [cellsOf]⟩
    · unfold spec_SwapMatrix.f
      rw [l1In_f, inB_not h]
      rfl
    · unfold impl_SwapMatrix.f impl_isIndex.f
      rw [within_f, inB_not h]
      rfl

end Go.Proofs.Ytmjodkckffmnaaa.Pure
