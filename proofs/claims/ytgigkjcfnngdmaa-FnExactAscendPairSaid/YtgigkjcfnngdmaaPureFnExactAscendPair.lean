/- For every input the statement FnExactAscendPair holds of what the program and the reference compute, told as plain Lean functions; there is no further condition. -/
import Derived.Test.YtgigkjcfnngdmaaP4
import Derived.Test.YtgigkjcfnngdmaaP6
import Derived.Test.YtgigkjcfnngdmaaJu
namespace Go.Proofs.Ytgigkjcfnngdmaa.Pure
open Go.RowKit Go.Proofs.Ytgigkjcfnngdmaa.P Go.Proofs.YtgigkjcfnngdmaaW.PrintWords Go.Proofs.YtgigkjcfnngdmaaW.PrintLast Go.Proofs.YtgigkjcfnngdmaaW.PrintMore

theorem upR_spec {x y k : Int} (h0 : 0 ≤ y) (h1 : y ≤ x) (h : (upR x y k).2.2 = true) : 0 ≤ (upR x y k).2.1 ∧ (upR x y k).2.1 ≤ (upR x y k).1 ∧ (upR x y k).1 ≤ 1000000 := by
  unfold upR at h ⊢
  split
  · rename_i g
    simp only
    omega
  · rename_i g
    rw [if_neg g] at h
    cases h
theorem ascend_loops (q s : Int) (k1 : 0 ≤ q) (k2 : q ≤ 1000000) (hs : s ≤ 1000) (d : Nat) : ∀ (x y i : Int) (out : List (List Int)) (n : Nat), 0 ≤ y → y ≤ x → x ≤ 1000000 → 0 ≤ i → i + d = s → d < n → out.length ≤ i + 1 → cellsOf out = 2 * out.length →
    ∃ r b, spec_AscendPair.l0 n x y q (s - i) out = some (r, b) ∧ impl_AscendPair.l0 n x y q out s i = some (r, b) ∧ r.length ≤ s + 1 ∧ cellsOf r = 2 * r.length := by
  induction d with
  | zero =>
    intro x y i out n h0 h1 h2 hi hd hn hl hc
    obtain ⟨n, rfl⟩ : ∃ m, n = m + 1 := ⟨n - 1, by omega⟩
    refine ⟨out, true, ?_, ?_, by omega, hc⟩
    · rw [spec_AscendPair.l0, if_neg (by omega)]
    · rw [impl_AscendPair.l0, if_neg (by omega)]
  | succ d ih =>
    intro x y i out n h0 h1 h2 hi hd hn hl hc
    obtain ⟨n, rfl⟩ : ∃ m, n = m + 1 := ⟨n - 1, by omega⟩
    have hm := mulb k1 k2 (show 0 ≤ x by omega) h2
    rw [spec_AscendPair.l0, impl_AscendPair.l0, if_pos (show s - i > 0 by omega), if_pos (show i < s by omega), l1In_f, impl_jumpUp_f h0 h1 h2 k1 k2]
    rw [wrap_id (x := q * x) (by omega) (by omega), wrap_id (x := q * x - y) (by omega) (by omega), wrap_id (x := s - i - 1) (by omega) (by omega), wrap_id (x := i + 1) (by omega) (by omega)]
    simp only [Option.bind_some]
    unfold upR
    by_cases g : x ≤ q * x - y ∧ q * x - y ≤ 1000000
    · rw [decide_eq_true g, if_pos g]
      simp only [if_true]
      simp only [if_pos (show out.length < 5864062014805 by omega)]
      have := ih (q * x - y) x (i + 1) (out ++ [[q * x - y, x]]) n (by omega) g.1 g.2 (by omega) (by omega) (by omega) (by simp; omega) (by rw [cells_snoc]; simp; omega)
      rw [show s - i - 1 = s - (i + 1) by omega]
      exact this
    · rw [decide_eq_false g, if_neg g]
      exact ⟨[], false, rfl, rfl, by simp; omega, rfl⟩
theorem FnExactAscendPair : laws_FnExactAscendPair.Pure := by
  intro x y k c s _ _ _ _ _
  by_cases hg : JuGiven k c
  · by_cases hj : JuPair x y k c
    · by_cases hs : 0 ≤ s ∧ s ≤ 40
      · have k1 : 0 ≤ k := by have := hg.1; omega
        have k2 : k ≤ 1000000 := by have := hg.2.1; omega
        obtain ⟨r, b, h1, h2, h3, h4⟩ := ascend_loops k s k1 k2 (by omega) s.toNat x y 0 [[x, y]] (s.toNat + 1) hj.1 hj.2.1 hj.2.2.1 (by omega) (by omega) (by omega) (by simp) (by simp [cellsOf])
        refine ⟨s.toNat + 2, r, b, ?_, ?_, by omega, by omega⟩
        · unfold spec_AscendPair.f
          rw [juGiven_f, decide_eq_true hg]
          simp only [Option.bind_some, if_true]
          rw [juGood_f hg, decide_eq_true hj]
          simp only [Option.bind_some, if_true]
          rw [l1In_f, decide_eq_true hs]
          simp only [Option.bind_some, Bool.not_true]
          rw [spec_AscendPair.j0, if_neg (by decide), if_pos (by simp)]
          rw [show s - 0 = s by omega] at h1
          exact h1
        · unfold impl_AscendPair.f
          rw [jumper_f, decide_eq_true hg, decide_eq_true hj]
          simp only [Bool.and_self, Option.bind_some, if_true]
          rw [within_f, decide_eq_true hs]
          simp only [Option.bind_some, Bool.not_true]
          rw [impl_AscendPair.j0, if_neg (by decide), if_pos (by simp)]
          exact h2
      · refine ⟨1, [], false, ?_, ?_, by simp, by simp [cellsOf]⟩
        · unfold spec_AscendPair.f
          simp [juGiven_f, juGood_f hg, hg, hj, l1In_f, hs, spec_AscendPair.j0]
        · unfold impl_AscendPair.f
          simp [jumper_f, hg, hj, within_f, hs, impl_AscendPair.j0]
    · refine ⟨1, [], false, ?_, ?_, by simp, by simp [cellsOf]⟩
      · unfold spec_AscendPair.f
        simp [juGiven_f, juGood_f hg, hg, hj, spec_AscendPair.j0]
      · unfold impl_AscendPair.f
        simp [jumper_f, hg, hj, impl_AscendPair.j0]
  · refine ⟨1, [], false, ?_, ?_, by simp, by simp [cellsOf]⟩
    · unfold spec_AscendPair.f
      simp [juGiven_f, hg, spec_AscendPair.j0]
    · unfold impl_AscendPair.f
      simp [jumper_f, hg, impl_AscendPair.j0]

end Go.Proofs.Ytgigkjcfnngdmaa.Pure
