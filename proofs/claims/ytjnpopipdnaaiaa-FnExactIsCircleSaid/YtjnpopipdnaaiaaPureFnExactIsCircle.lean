/- For every input the statement FnExactIsCircle holds of what the program and the reference compute, told as plain Lean functions; there is no further condition. -/
import Derived.Test.YtjnpopipdnaaiaaP1
import Derived.Test.YtjnpopipdnaaiaaLeFnExactIsCircle
namespace Go.Proofs.Ytjnpopipdnaaiaa.Pure
open Go.RowKit Go.Proofs.Ytjnpopipdnaaiaa.P Go.Proofs.YtjnpopipdnaaiaaW.PrintWords Go.Proofs.YtjnpopipdnaaiaaW.PrintLast Go.Proofs.YtjnpopipdnaaiaaW.PrintMore

theorem FnExactIsCircle (a b c d : Int) (_ : (Lit.int .i64 a).wf = true) (_ : (Lit.int .i64 b).wf = true) (_ : (Lit.int .i64 c).wf = true) (_ : (Lit.int .i64 d).wf = true) : ∃ k, laws_FnExactIsCircle.f k a b c d = some true := by
  suffices h : Ev (fun k => laws_FnExactIsCircle.f k a b c d) true by
    obtain ⟨K, h⟩ := h
    exact ⟨K, h K (Nat.le_refl _)⟩
  unfold laws_FnExactIsCircle.f laws_toCircle.f
  simp only [Option.bind_some]
  refine Ev.bind (a := isC ⟨a, b, c, d⟩) ?_ ?_
  · unfold spec_IsCircle.f
    exact Ev.bind (ciGood_ev a b c d) (Ev.now _)
  · simp only [impl_isC, Option.bind_some, bne_self_eq_false, Bool.false_eq_true, if_false]
    exact Ev.now _

end Go.Proofs.Ytjnpopipdnaaiaa.Pure
