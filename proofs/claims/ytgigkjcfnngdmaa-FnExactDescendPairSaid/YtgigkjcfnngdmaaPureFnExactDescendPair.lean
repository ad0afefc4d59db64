/- For every input the statement FnExactDescendPair holds of what the program and the reference compute, told as plain Lean functions; there is no further condition. -/
import Derived.Test.YtgigkjcfnngdmaaP4
import Derived.Test.YtgigkjcfnngdmaaP7
import Derived.Test.YtgigkjcfnngdmaaJu
namespace Go.Proofs.Ytgigkjcfnngdmaa.Pure
open Go.RowKit Go.Proofs.Ytgigkjcfnngdmaa.P Go.Proofs.YtgigkjcfnngdmaaW.PrintWords Go.Proofs.YtgigkjcfnngdmaaW.PrintLast Go.Proofs.YtgigkjcfnngdmaaW.PrintMore

theorem descend_loops (q : Int) (k1 : 0 ≤ q) (k2 : q ≤ 1000000) (d : Nat) : ∀ (x y : Int) (out : List (List Int)) (n : Nat), 0 ≤ y → y ≤ x → x ≤ 1000000 → x + y ≤ d → d + 3 < n → out.length < 1000 → cellsOf out = 2 * out.length →
    ∃ r, spec_juRun.l0 n x y q 1000 (out ++ [[x, y]]) = some r ∧ impl_descend.l0 n x y q 1000 out true = some (r, decide ((r.length : Int) > 0)) ∧ r.length ≤ 1000 ∧ cellsOf r = 2 * r.length := by
  induction d with
  | zero =>
    intro x y out n h0 h1 h2 hd hn hl hc
    obtain ⟨n, rfl⟩ : ∃ m, n = m + 2 := ⟨n - 2, by omega⟩
    have hf : (downR x y q).2.2 = false := by
      cases e : (downR x y q).2.2 with
      | false => rfl
      | true => have := downR_spec h0 h1 h2 e; omega
    refine ⟨out ++ [[x, y]], ?_, ?_, by simp; omega, by rw [cells_snoc]; simp; omega⟩
    · simp only [spec_juRun.l0, spec_juDown_f h0 h1 h2 k1 k2, Option.bind_some, hf]
      rfl
    · simp only [impl_descend.l0, impl_jumpDown_f h0 h1 h2 k1 k2, Option.bind_some, hf, if_true]
      rw [if_neg (by omega), if_pos (by omega), if_neg (by decide)]
      simp
  | succ d ih =>
    intro x y out n h0 h1 h2 hd hn hl hc
    obtain ⟨n, rfl⟩ : ∃ m, n = m + 2 := ⟨n - 2, by omega⟩
    cases e : (downR x y q).2.2 with
    | false =>
      refine ⟨out ++ [[x, y]], ?_, ?_, by simp; omega, by rw [cells_snoc]; simp; omega⟩
      · simp only [spec_juRun.l0, spec_juDown_f h0 h1 h2 k1 k2, Option.bind_some, e]
        rfl
      · simp only [impl_descend.l0, impl_jumpDown_f h0 h1 h2 k1 k2, Option.bind_some, e, if_true]
        rw [if_neg (by omega), if_pos (by omega), if_neg (by decide)]
        simp
    | true =>
      have g := downR_spec h0 h1 h2 e
      by_cases hl2 : out.length + 1 = 1000
      · refine ⟨[], ?_, ?_, by simp, rfl⟩
        · rw [spec_juRun.l0]
          simp only [spec_juDown_f h0 h1 h2 k1 k2, Option.bind_some, e, if_true]
          rw [if_pos (by simp; omega)]
        · rw [impl_descend.l0]
          simp only [impl_jumpDown_f h0 h1 h2 k1 k2, Option.bind_some, e, if_true]
          rw [if_neg (by omega), if_pos (by omega), impl_descend.l0, if_pos rfl, if_pos (by simp; omega)]
          rfl
      · obtain ⟨r, hr1, hr2, hr3, hr4⟩ := ih (downR x y q).1 (downR x y q).2.1 (out ++ [[x, y]]) (n + 1) g.1 g.2.1 g.2.2.1 (by omega) (by omega) (by simp; omega) (by rw [cells_snoc]; simp; omega)
        refine ⟨r, ?_, ?_, hr3, hr4⟩
        · rw [spec_juRun.l0]
          simp only [spec_juDown_f h0 h1 h2 k1 k2, Option.bind_some, e, if_true]
          rw [if_neg (by simp; omega), if_pos (by simp; omega)]
          exact hr1
        · rw [impl_descend.l0]
          simp only [impl_jumpDown_f h0 h1 h2 k1 k2, Option.bind_some, e, if_true]
          rw [if_neg (by omega), if_pos (by omega)]
          exact hr2
theorem FnExactDescendPair : laws_FnExactDescendPair.Pure := by
  intro x y k c _ _ _ _
  by_cases hg : JuGiven k c
  · by_cases hj : JuPair x y k c
    · have k1 : 0 ≤ k := by have := hg.1; omega
      have k2 : k ≤ 1000000 := by have := hg.2.1; omega
      have hx := hj.2.1
      have hy := hj.1
      obtain ⟨r, h1, h2, h3, h4⟩ := descend_loops k k1 k2 (x + y).toNat x y [] ((x + y).toNat + 4) hj.1 hj.2.1 hj.2.2.1 (by omega) (by omega) (by simp) rfl
      refine ⟨(x + y).toNat + 4, r, decide ((r.length : Int) > 0), ?_, ?_, by omega, by omega⟩
      · unfold spec_DescendPair.f spec_juRun.f
        rw [juGiven_f, decide_eq_true hg]
        simp only [Option.bind_some, if_true]
        rw [juGood_f hg, decide_eq_true hj]
        simp only [Option.bind_some, if_true]
        rw [if_pos (by simp), h1]
        rfl
      · unfold impl_DescendPair.f impl_descend.f
        rw [jumper_f, decide_eq_true hg, decide_eq_true hj]
        simp only [Bool.and_self, Option.bind_some, if_true]
        rw [h2]
        rfl
    · refine ⟨1, [], false, ?_, ?_, by simp, by simp [cellsOf]⟩
      · unfold spec_DescendPair.f
        simp [juGiven_f, juGood_f hg, hg, hj]
      · unfold impl_DescendPair.f
        simp [jumper_f, hg, hj]
  · refine ⟨1, [], false, ?_, ?_, by simp, by simp [cellsOf]⟩
    · unfold spec_DescendPair.f
      simp [juGiven_f, hg]
    · unfold impl_DescendPair.f
      simp [jumper_f, hg]

end Go.Proofs.Ytgigkjcfnngdmaa.Pure
