/- For every input the statement FnExactLeastPair holds of what the program and the reference compute, as plain Lean functions; there is no further condition. -/
import Derived.Test.YtgigkjcfnngdmaaP1
import Derived.Test.YtgigkjcfnngdmaaP2
import Derived.Test.YtgigkjcfnngdmaaP3
import Derived.Test.YtgigkjcfnngdmaaJu
namespace Go.Proofs.Ytgigkjcfnngdmaa.Pure
open Go.RowKit Go.Proofs.Ytgigkjcfnngdmaa.P Go.Proofs.YtgigkjcfnngdmaaW.PrintWords Go.Proofs.YtgigkjcfnngdmaaW.PrintLast Go.Proofs.YtgigkjcfnngdmaaW.PrintMore

/-- Both loops come to one pair. -/
theorem least_loops (k : Int) (k1 : 0 ≤ k) (k2 : k ≤ 1000000) (d : Nat) : ∀ (x y : Int) (n : Nat), 0 ≤ y → y ≤ x → x ≤ 1000000 → x + y ≤ d → d < n →
    ∃ r, spec_LeastPair.l0 n x y k = some r ∧ impl_LeastPair.l0 n x y k = some r := by
  induction d with
  | zero =>
    intro x y n h0 h1 h2 hd hn
    obtain ⟨n, rfl⟩ : ∃ m, n = m + 1 := ⟨n - 1, by omega⟩
    have hf : (downR x y k).2.2 = false := by
      cases e : (downR x y k).2.2 with
      | false => rfl
      | true => have := downR_spec h0 h1 h2 e; omega
    simp only [spec_LeastPair.l0, impl_LeastPair.l0, spec_juDown_f h0 h1 h2 k1 k2, impl_jumpDown_f h0 h1 h2 k1 k2, Option.bind_some, hf]
    exact ⟨_, rfl, rfl⟩
  | succ d ih =>
    intro x y n h0 h1 h2 hd hn
    obtain ⟨n, rfl⟩ : ∃ m, n = m + 1 := ⟨n - 1, by omega⟩
    simp only [spec_LeastPair.l0, impl_LeastPair.l0, spec_juDown_f h0 h1 h2 k1 k2, impl_jumpDown_f h0 h1 h2 k1 k2, Option.bind_some]
    cases e : (downR x y k).2.2 with
    | false => exact ⟨_, rfl, rfl⟩
    | true =>
      have g := downR_spec h0 h1 h2 e
      simp only [if_true]
      exact ih _ _ n g.1 g.2.1 g.2.2.1 (by omega) (by omega)
theorem FnExactLeastPair : laws_FnExactLeastPair.Pure := by
  intro x y k c _ _ _ _
  by_cases hg : JuGiven k c
  · by_cases hj : JuPair x y k c
    · have k1 : 0 ≤ k := by have := hg.1; omega
      have k2 : k ≤ 1000000 := by have := hg.2.1; omega
      have hx := hj.2.1
      have hy := hj.1
      obtain ⟨r, h1, h2⟩ := least_loops k k1 k2 (x + y).toNat x y ((x + y).toNat + 1) hj.1 hj.2.1 hj.2.2.1 (by omega) (by omega)
      have h2' := impl_LeastPair.mono_l ((x + y).toNat + 1) x y k r h2
      refine ⟨(x + y).toNat + 1 + 1, ?_⟩
      unfold laws_FnExactLeastPair.f spec_LeastPair.f impl_LeastPair.f
      simp only [juGiven_f, jumper_f, juGood_f hg, hg, hj, Option.bind_some, decide_true, Bool.and_self, if_true, h2']
      simp only [spec_LeastPair.j0, Bool.not_true, h1]
      simp
    · refine ⟨1, ?_⟩
      unfold laws_FnExactLeastPair.f spec_LeastPair.f impl_LeastPair.f
      simp [juGiven_f, jumper_f, juGood_f hg, hg, hj, spec_LeastPair.j0]
  · refine ⟨1, ?_⟩
    unfold laws_FnExactLeastPair.f spec_LeastPair.f impl_LeastPair.f
    simp [juGiven_f, jumper_f, hg, spec_LeastPair.j0]

end Go.Proofs.Ytgigkjcfnngdmaa.Pure
