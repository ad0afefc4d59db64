/- For every input the statement FnExactQuotientPairs holds of what the program and the reference compute, told as plain Lean functions; there is no further condition. -/
import Derived.Test.YtgigkjcfnngdmaaP4
import Derived.Test.YtgigkjcfnngdmaaP5
import Derived.Test.YtgigkjcfnngdmaaJu
namespace Go.Proofs.Ytgigkjcfnngdmaa.Pure
open Go.RowKit Go.Proofs.Ytgigkjcfnngdmaa.P Go.Proofs.YtgigkjcfnngdmaaW.PrintWords Go.Proofs.YtgigkjcfnngdmaaW.PrintLast Go.Proofs.YtgigkjcfnngdmaaW.PrintMore

theorem quotient_loops (q s : Int) (hq : 1 ≤ q ∧ q ≤ 100) (hs : s ≤ 1000) (d : Nat) : ∀ (x y : Int) (out : List (List Int)) (n : Nat), 0 ≤ y → y ≤ x → x ≤ 1000000 → out.length + d = s → 2 * d + 2 < n → cellsOf out = 2 * out.length →
    ∃ r, spec_QuotientPairs.l0 n q s out x y = some (r, true) ∧ impl_QuotientPairs.l0 n q s out x y true = some (r, true) ∧ r.length ≤ s ∧ cellsOf r = 2 * r.length := by
  have hqq := mulb (show 0 ≤ q by omega) hq.2 (show 0 ≤ q by omega) hq.2
  induction d with
  | zero =>
    intro x y out n h0 h1 h2 hd hn hc
    obtain ⟨n, rfl⟩ : ∃ m, n = m + 2 := ⟨n - 2, by omega⟩
    refine ⟨out, ?_, ?_, by omega, hc⟩
    · rw [spec_QuotientPairs.l0, if_neg (by omega), spec_QuotientPairs.j2, if_neg (by decide)]
    · rw [impl_QuotientPairs.l0, if_pos rfl, if_neg (by omega)]
  | succ d ih =>
    intro x y out n h0 h1 h2 hd hn hc
    obtain ⟨n, rfl⟩ : ∃ m, n = m + 4 := ⟨n - 4, by omega⟩
    have hm := mulb hqq.1 hqq.2 (show 0 ≤ x by omega) h2
    rw [spec_QuotientPairs.l0, if_pos (by omega), decide_eq_true h2, spec_QuotientPairs.j2, if_pos rfl, if_pos (by omega)]
    rw [impl_QuotientPairs.l0, if_pos rfl, if_pos (by omega), if_pos (by omega)]
    rw [wrap_id (x := q * q) (by omega) (by omega), wrap_id (x := q * q * x) (by omega) (by omega), wrap_id (x := q * q * x - y) (by omega) (by omega), impl_jumpUp_f h0 h1 h2 hqq.1 (by omega)]
    simp only [Option.bind_some]
    unfold upR
    by_cases g : x ≤ q * q * x - y
    · rw [if_neg (by omega)]
      by_cases g2 : q * q * x - y ≤ 1000000
      · rw [if_pos ⟨g, g2⟩]
        obtain ⟨r, hr1, hr2, hr3, hr4⟩ := ih (q * q * x - y) x (out ++ [[x, y]]) (n + 2) (by omega) g g2 (by simp; omega) (by omega) (by rw [cells_snoc]; simp; omega)
        refine ⟨r, hr1, ?_, hr3, hr4⟩
        exact (impl_QuotientPairs.mono_l _).2 _ _ _ _ _ _ _ hr2
      · rw [if_neg (fun h => g2 h.2)]
        refine ⟨out ++ [[x, y]], ?_, ?_, by simp; omega, by rw [cells_snoc]; simp; omega⟩
        · rw [spec_QuotientPairs.l0]
          by_cases g3 : ((out ++ [[x, y]]).length : Int) < s
          · rw [if_pos g3, decide_eq_false g2, spec_QuotientPairs.j2, if_neg (by decide)]
          · rw [if_neg g3, spec_QuotientPairs.j2, if_neg (by decide)]
        · rw [impl_QuotientPairs.l0, if_neg (by decide)]
    · rw [if_pos (by omega), if_neg (fun h => g h.1)]
      refine ⟨out ++ [[x, y]], rfl, ?_, by simp; omega, by rw [cells_snoc]; simp; omega⟩
      rw [impl_QuotientPairs.l0, if_neg (by decide)]
theorem FnExactQuotientPairs : laws_FnExactQuotientPairs.Pure := by
  intro q s _ _
  by_cases hq : 1 ≤ q ∧ q ≤ 100
  · by_cases hs : 0 ≤ s ∧ s ≤ 20
    · obtain ⟨r, h1, h2, h3, h4⟩ := quotient_loops q s hq (by omega) s.toNat q 0 [] (2 * s.toNat + 3) (by omega) (by omega) (by omega) (by simp; omega) (by omega) rfl
      refine ⟨2 * s.toNat + 4, r, true, ?_, ?_, by omega, by omega⟩
      · unfold spec_QuotientPairs.f
        rw [l1In_f, decide_eq_true hq]
        simp only [Option.bind_some, if_true]
        rw [l1In_f, decide_eq_true hs]
        simp only [Option.bind_some, Bool.not_true]
        rw [spec_QuotientPairs.j0, if_neg (by decide)]
        exact h1
      · unfold impl_QuotientPairs.f
        rw [within_f, decide_eq_true hq]
        simp only [Option.bind_some, if_true]
        rw [within_f, decide_eq_true hs]
        simp only [Option.bind_some, Bool.not_true]
        rw [impl_QuotientPairs.j0, if_neg (by decide)]
        exact h2
    · refine ⟨1, [], false, ?_, ?_, by simp, by simp [cellsOf]⟩
      · unfold spec_QuotientPairs.f
        simp [l1In_f, hq, hs, spec_QuotientPairs.j0]
      · unfold impl_QuotientPairs.f
        simp [within_f, hq, hs, impl_QuotientPairs.j0]
  · refine ⟨1, [], false, ?_, ?_, by simp, by simp [cellsOf]⟩
    · unfold spec_QuotientPairs.f
      simp [l1In_f, hq, spec_QuotientPairs.j0]
    · unfold impl_QuotientPairs.f
      simp [within_f, hq, impl_QuotientPairs.j0]

end Go.Proofs.Ytgigkjcfnngdmaa.Pure
