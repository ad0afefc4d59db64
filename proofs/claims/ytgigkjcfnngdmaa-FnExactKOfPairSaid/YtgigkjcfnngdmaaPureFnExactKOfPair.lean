/- For every input the statement FnExactKOfPair holds of what the program and the reference compute, as plain Lean functions; there is no further condition. -/
import Derived.Test.YtgigkjcfnngdmaaP1
import Derived.Test.YtgigkjcfnngdmaaP2
import Derived.Test.YtgigkjcfnngdmaaJu
namespace Go.Proofs.Ytgigkjcfnngdmaa.Pure
open Go.RowKit Go.Proofs.Ytgigkjcfnngdmaa.P Go.Proofs.YtgigkjcfnngdmaaW.PrintWords Go.Proofs.YtgigkjcfnngdmaaW.PrintLast Go.Proofs.YtgigkjcfnngdmaaW.PrintMore

theorem FnExactKOfPair : laws_FnExactKOfPair.Pure := by
  intro x y c _ _ _
  refine ⟨1, ?_⟩
  unfold laws_FnExactKOfPair.f spec_KOfPair.f impl_KOfPair.f
  simp only [l1In_f, within_f, Option.bind_some]
  by_cases hx : (1 ≤ x ∧ x ≤ 1000000) ∧ (1 ≤ y ∧ y ≤ x) ∧ (-1000 ≤ c ∧ c ≤ 1000)
  · obtain ⟨hx, hy, hc⟩ := hx
    have hy' : 1 ≤ y ∧ y ≤ 1000000 := by omega
    have hx' : y ≤ x ∧ x ≤ 1000000 := by omega
    have a := mulb (show 0 ≤ x by omega) hx.2 (show 0 ≤ x by omega) hx.2
    have b := mulb (show 0 ≤ y by omega) hy'.2 (show 0 ≤ y by omega) hy'.2
    have d := mulb (show 0 ≤ x by omega) hx.2 (show 0 ≤ y by omega) hy'.2
    have dp : 1 ≤ x * y := by
      have := Int.mul_le_mul (show 1 ≤ x by omega) (show 1 ≤ y by omega) (by omega) (show 0 ≤ x by omega)
      omega
    simp only [hx, hy, hc, hy', hx', and_self, decide_true, if_true, Bool.not_true]
    simp only [spec_KOfPair.j0, impl_kOf.f, within_f, juGiven_f, Option.bind_some]
    rw [wrap_id (x := x * x) (by omega) (by omega), wrap_id (x := y * y) (by omega) (by omega), wrap_id (x := x * x + y * y) (by omega) (by omega), wrap_id (x := x * x + y * y + c) (by omega) (by omega), wrap_id (x := x * y) (by omega) (by omega)]
    have hne : ¬ (x * y = 0) := by omega
    simp only [hne, if_false, Bool.false_eq_true]
    generalize hs : x * x + y * y + c = s
    have hsb : -1000 ≤ s ∧ s ≤ 2000000001000 := by omega
    have hq := Int.mul_tdiv_add_tmod s (x * y)
    generalize hm : s.tmod (x * y) = m at hq ⊢
    have hql : -2000000001000 ≤ s.tdiv (x * y) ∧ s.tdiv (x * y) ≤ 2000000001000 := by
      have h1 := Int.natAbs_tdiv_le_natAbs s (x * y)
      omega
    generalize hk : s.tdiv (x * y) = k at hq hql ⊢
    rw [wrap_id (x := k) (by omega) (by omega)]
    have hcomm : k * x * y = x * y * k := by rw [Int.mul_assoc, Int.mul_comm]
    by_cases g : JuGiven k c
    · have gk : 1 ≤ k ∧ k ≤ 1000 := ⟨g.1, g.2.1⟩
      simp only [g, gk, and_self, decide_true, if_true, juGood_f g, Option.bind_some]
      by_cases hm0 : m = 0
      · have hj : JuPair x y k c := ⟨by omega, by omega, by omega, by omega⟩
        simp [hj, hm0]
      · have hj : ¬ JuPair x y k c := fun h => hm0 (by have := h.2.2.2; omega)
        simp [hj, hm0]
    · have gk : ¬ (1 ≤ k ∧ k ≤ 1000) := fun h => g ⟨h.1, h.2, hc.1, hc.2⟩
      simp only [g, gk, decide_false]
      by_cases hm0 : m = 0 <;> simp [hm0]
  · have e1 : (if decide (1 ≤ x ∧ x ≤ 1000000) = true then (if decide (1 ≤ y ∧ y ≤ x) = true then spec_KOfPair.j0 1 x y c (!decide (-1000 ≤ c ∧ c ≤ 1000)) else spec_KOfPair.j0 1 x y c true) else spec_KOfPair.j0 1 x y c true) = some (0, false) := by
      by_cases h1 : 1 ≤ x ∧ x ≤ 1000000
      · by_cases h2 : 1 ≤ y ∧ y ≤ x
        · have h3 : ¬ (-1000 ≤ c ∧ c ≤ 1000) := fun h3 => hx ⟨h1, h2, h3⟩
          simp [h1, h2, h3, spec_KOfPair.j0]
        · simp [h1, h2, spec_KOfPair.j0]
      · simp [h1, spec_KOfPair.j0]
    rw [e1]
    by_cases h1 : 1 ≤ y ∧ y ≤ 1000000
    · by_cases h2 : y ≤ x ∧ x ≤ 1000000
      · have h3 : ¬ (-1000 ≤ c ∧ c ≤ 1000) := fun h3 => hx ⟨by omega, by omega, h3⟩
        simp [h1, h2, h3]
      · simp [h1, h2]
    · simp [h1]

end Go.Proofs.Ytgigkjcfnngdmaa.Pure
