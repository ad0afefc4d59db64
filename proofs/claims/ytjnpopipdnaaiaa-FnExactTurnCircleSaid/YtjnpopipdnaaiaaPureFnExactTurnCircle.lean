/- For every input the statement FnExactTurnCircle holds of what the program and the reference compute, told as plain Lean functions; there is no further condition. -/
import Derived.Test.YtjnpopipdnaaiaaP1
import Derived.Test.YtjnpopipdnaaiaaP5
import Derived.Test.YtjnpopipdnaaiaaLeFnExactTurnCircle
namespace Go.Proofs.Ytjnpopipdnaaiaa.Pure
open Go.RowKit Go.Proofs.Ytjnpopipdnaaiaa.P Go.Proofs.YtjnpopipdnaaiaaW.PrintWords Go.Proofs.YtjnpopipdnaaiaaW.PrintLast Go.Proofs.YtjnpopipdnaaiaaW.PrintMore

theorem FnExactTurnCircle (a b c d : Int) (_ : (Lit.int .i64 a).wf = true) (_ : (Lit.int .i64 b).wf = true) (_ : (Lit.int .i64 c).wf = true) (_ : (Lit.int .i64 d).wf = true) : ∃ k, laws_FnExactTurnCircle.f k a b c d = some true := by
  suffices h : Ev (fun k => laws_FnExactTurnCircle.f k a b c d) true by
    obtain ⟨K, h⟩ := h
    exact ⟨K, h K (Nat.le_refl _)⟩
  unfold laws_FnExactTurnCircle.f laws_toCircle.f
  simp only [Option.bind_some]
  obtain ⟨p, h1, h2⟩ : ∃ p, Ev (fun k => spec_TurnCircle.f k a b c d) p ∧ impl_TurnCircle.f a b c d = some p := by
    unfold spec_TurnCircle.f impl_TurnCircle.f
    rw [impl_isC]
    have hg := ciGood_ev a b c d
    cases h : isC ⟨a, b, c, d⟩ with
    | true =>
      rw [h] at hg
      exact ⟨(a, b, wrap64 (-d), c, true), Ev.bind hg (Ev.now _), rfl⟩
    | false =>
      rw [h] at hg
      exact ⟨(0, 0, 0, 0, false), Ev.bind hg (Ev.now _), rfl⟩
  refine Ev.bind h1 ?_
  rw [h2]
  simp only [Option.bind_some, eqCircle_f, if_true, bne_self_eq_false, Bool.false_eq_true, if_false]
  exact Ev.now _

end Go.Proofs.Ytjnpopipdnaaiaa.Pure
