/- For every input the statement FnExactAllRootsUpTo holds of what the program and the reference compute, told as plain Lean functions; there is no further condition. -/
import Derived.Test.YtmjodkckffmnaaaP2
import Derived.Test.YtmjodkckffmnaaaP7
import Derived.Test.YtmjodkckffmnaaaP30
import Derived.Test.YtmjodkckffmnaaaP33
import Derived.Test.YtmjodkckffmnaaaP34
import Derived.Test.YtmjodkckffmnaaaLeFnExactAllRootsUpTo
namespace Go.Proofs.Ytmjodkckffmnaaa.Pure
open Go.RowKit Go.Proofs.Ytmjodkckffmnaaa.P Go.Proofs.YtmjodkckffmnaaaW.PrintWords Go.Proofs.YtmjodkckffmnaaaW.PrintLast Go.Proofs.YtmjodkckffmnaaaW.PrintMore

theorem cellsOf_app (a b : List (List Int)) : cellsOf (a ++ b) = cellsOf a + cellsOf b := by
  induction a with
  | nil => simp [cellsOf]
  | cons x t ih => simp only [List.cons_append, cellsOf, ih]; omega
theorem allRoots_l (N : Nat) (hN : N ≤ 30) (d : Nat) : ∀ (i : Nat) (acc : List (List Int)), 1 ≤ i → i + d = N + 1 → acc.length ≤ 10 * (i - 1) → cellsOf acc ≤ 100 * (i - 1) →
    ∃ r, spec_AllRootsUpTo.l0 (4000 + d + 1) N acc i = some (r, true) ∧ impl_AllRootsUpTo.l0 (4000 + d + 1) N acc i = some (r, true) ∧ r.length ≤ 300 ∧ cellsOf r ≤ 3000 := by
  induction d with
  | zero =>
    intro i acc h0 h1 h2 h3
    refine ⟨acc, ?_, ?_, by omega, by omega⟩
    · generalize 4000 + 0 = K
      simp only [spec_AllRootsUpTo.l0]
      rw [if_neg (by omega)]
    · generalize 4000 + 0 = K
      simp only [impl_AllRootsUpTo.l0]
      rw [if_neg (by omega)]
  | succ d ih =>
    intro i acc h0 h1 h2 h3
    obtain ⟨t1, t2, t3, t4⟩ := tab_all i h0 (by omega)
    have m1 : spec_apRoots.f (4000 + d + 1) i = some (tab i) := at_rounds (g := fun k => spec_apRoots.f k i) (fun k => spec_apRoots.mono _ k) (show 4000 ≤ 4000 + d + 1 by omega) t1
    have m2 : impl_rootsWith.f (4000 + d + 1) i = some (tab i) := at_rounds (g := fun k => impl_rootsWith.f k i) (fun k => impl_rootsWith.mono _ k) (show 4000 ≤ 4000 + d + 1 by omega) t2
    obtain ⟨r, e1, e2, e3, e4⟩ := ih (i + 1) (acc ++ tab i) (by omega) (by omega) (by rw [List.length_append]; omega) (by rw [cellsOf_app]; omega)
    refine ⟨r, ?_, ?_, e3, e4⟩
    all_goals rw [show 4000 + (d + 1) + 1 = (4000 + d + 1) + 1 by omega]
    all_goals generalize 4000 + d + 1 = K at *
    · simp only [spec_AllRootsUpTo.l0]
      rw [if_pos (by omega), m1, Option.bind_some, if_pos (by omega), wrap_id (by omega) (by omega)]
      exact e1
    · simp only [impl_AllRootsUpTo.l0]
      rw [if_pos (by omega), m2, Option.bind_some, if_pos (by omega), wrap_id (by omega) (by omega)]
      exact e2
theorem FnExactAllRootsUpTo : laws_FnExactAllRootsUpTo.Pure := by
  intro a0 hw
  by_cases h : 1 ≤ a0 ∧ a0 ≤ 30
  · obtain ⟨n, rfl⟩ : ∃ n : Nat, a0 = n := ⟨a0.toNat, by omega⟩
    obtain ⟨r, h1, h2, h3, h4⟩ := allRoots_l n (by omega) n 1 [] (by omega) (by omega) (by simp) (by simp [cellsOf])
    refine ⟨4000 + n + 1, r, true, ?_, ?_, by omega, by omega⟩
    · unfold spec_AllRootsUpTo.f
      rw [l1In_f, inB_of h]
      simp only [Option.bind_some, if_true]
      exact h1
    · unfold impl_AllRootsUpTo.f
      rw [within_f, inB_of h]
      simp only [Option.bind_some, if_true]
      exact h2
  · refine ⟨20, [], false, ?_, ?_, by simp, by simp [cellsOf]⟩
    · unfold spec_AllRootsUpTo.f
      rw [l1In_f, inB_not h]
      rfl
    · unfold impl_AllRootsUpTo.f
      rw [within_f, inB_not h]
      rfl

end Go.Proofs.Ytmjodkckffmnaaa.Pure
