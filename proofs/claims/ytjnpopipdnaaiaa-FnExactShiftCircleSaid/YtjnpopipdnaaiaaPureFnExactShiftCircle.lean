/- For every input the statement FnExactShiftCircle holds of what the program and the reference compute, told as plain Lean functions; there is no further condition. -/
import Derived.Test.YtjnpopipdnaaiaaP1
import Derived.Test.YtjnpopipdnaaiaaP7
import Derived.Test.YtjnpopipdnaaiaaLeFnExactShiftCircle
namespace Go.Proofs.Ytjnpopipdnaaiaa.Pure
open Go.RowKit Go.Proofs.Ytjnpopipdnaaiaa.P Go.Proofs.YtjnpopipdnaaiaaW.PrintWords Go.Proofs.YtjnpopipdnaaiaaW.PrintLast Go.Proofs.YtjnpopipdnaaiaaW.PrintMore

theorem shift_eq {a b c d x y : Int} (h : c * c + d * d - a * b = 1) : (c + b * x) * (c + b * x) + (d + b * y) * (d + b * y) - (a + 2 * (c * x + d * y) + b * (x * x + y * y)) * b = 1 := by grind
theorem FnExactShiftCircle (a b c d x y : Int) (_ : (Lit.int .i64 a).wf = true) (_ : (Lit.int .i64 b).wf = true) (_ : (Lit.int .i64 c).wf = true) (_ : (Lit.int .i64 d).wf = true) (_ : (Lit.int .i64 x).wf = true) (_ : (Lit.int .i64 y).wf = true) : ∃ k, laws_FnExactShiftCircle.f k a b c d x y = some true := by
  suffices h : Ev (fun k => laws_FnExactShiftCircle.f k a b c d x y) true by
    obtain ⟨K, h⟩ := h
    exact ⟨K, h K (Nat.le_refl _)⟩
  unfold laws_FnExactShiftCircle.f laws_toCircle.f
  simp only [Option.bind_some]
  obtain ⟨p, h1, h2⟩ : ∃ p, Ev (fun k => spec_ShiftCircle.f k a b c d x y) p ∧ impl_ShiftCircle.f a b c d x y = some p := by
    unfold spec_ShiftCircle.f impl_ShiftCircle.f
    simp only [impl_isC, l1In_f, within_f, Option.bind_some]
    by_cases h : isC ⟨a, b, c, d⟩ = true
    · simp only [if_pos h]
      by_cases hx : inB (-1000) 1000 x = true
      · simp only [if_pos hx]
        by_cases hy : inB (-1000) 1000 y = true
        · simp only [if_pos hy]
          rw [isC_iff] at h
          obtain ⟨⟨h0, h1, h2, h3⟩, he⟩ := h
          rw [inB_iff] at hx hy
          simp only [bnd] at h0 h1 h2 h3
          have b1 := sqb (A := 1000000) (B := 1000) (by omega) h2.2 (by omega) hx.2
          have b2 := sqb (A := 1000000) (B := 1000) (by omega) h3.2 (by omega) hy.2
          have b3 := sqb (A := 1000) (B := 1000) (by omega) hx.2 (by omega) hx.2
          have b4 := sqb (A := 1000) (B := 1000) (by omega) hy.2 (by omega) hy.2
          have b5 := sqb (A := 1000000) (B := 1000) (by omega) h1.2 (by omega) hx.2
          have b6 := sqb (A := 1000000) (B := 1000) (by omega) h1.2 (by omega) hy.2
          have b7 := sqb (a := b) (b := x * x + y * y) (A := 1000000) (B := 2000000) (by omega) h1.2 (by omega) (by omega)
          rw [wrap_id (x := c * x) (by omega) (by omega), wrap_id (x := d * y) (by omega) (by omega), wrap_id (x := x * x) (by omega) (by omega), wrap_id (x := y * y) (by omega) (by omega), wrap_id (x := b * x) (by omega) (by omega), wrap_id (x := b * y) (by omega) (by omega), wrap_id (x := x * x + y * y) (by omega) (by omega), wrap_id (x := b * (x * x + y * y)) (by omega) (by omega), wrap_id (x := c * x + d * y) (by omega) (by omega), wrap_id (x := 2 * (c * x + d * y)) (by omega) (by omega), wrap_id (x := a + 2 * (c * x + d * y)) (by omega) (by omega), wrap_id (x := a + 2 * (c * x + d * y) + b * (x * x + y * y)) (by omega) (by omega), wrap_id (x := c + b * x) (by omega) (by omega), wrap_id (x := d + b * y) (by omega) (by omega)]
          rw [drawn_f, ← isC_of (shift_eq he)]
          have hg := ciGood_ev a b c d
          rw [show isC ⟨a, b, c, d⟩ = true from (isC_iff _).2 ⟨⟨h0, h1, h2, h3⟩, he⟩] at hg
          refine ⟨_, Ev.bind hg ?_, rfl⟩
          simp only [if_true]
          exact Ev.bind (ciIf_ev _ _ _ _) (Ev.now _)
        · simp only [if_neg hy]
          have hg := ciGood_ev a b c d
          rw [h] at hg
          exact ⟨_, Ev.bind hg (by simp only [if_true]; exact Ev.now _), rfl⟩
      · simp only [if_neg hx]
        have hg := ciGood_ev a b c d
        rw [h] at hg
        exact ⟨_, Ev.bind hg (by simp only [if_true]; exact Ev.now _), rfl⟩
    · simp only [if_neg h]
      have hg := ciGood_ev a b c d
      rw [Bool.eq_false_iff.2 h] at hg
      exact ⟨_, Ev.bind hg (by simp only [Bool.false_eq_true, if_false]; exact Ev.now _), rfl⟩
  refine Ev.bind h1 ?_
  rw [h2]
  simp only [Option.bind_some, eqCircle_f, if_true, bne_self_eq_false, Bool.false_eq_true, if_false]
  exact Ev.now _

end Go.Proofs.Ytjnpopipdnaaiaa.Pure
