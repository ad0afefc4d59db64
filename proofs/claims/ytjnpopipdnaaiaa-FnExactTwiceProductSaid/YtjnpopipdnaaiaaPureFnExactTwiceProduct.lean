/- For every input the statement FnExactTwiceProduct holds of what the program and the reference compute, told as plain Lean functions; there is no further condition. -/
import Derived.Test.YtjnpopipdnaaiaaP1
import Derived.Test.YtjnpopipdnaaiaaP3
import Derived.Test.YtjnpopipdnaaiaaP4
import Derived.Test.YtjnpopipdnaaiaaLeFnExactTwiceProduct
namespace Go.Proofs.Ytjnpopipdnaaiaa.Pure
open Go.RowKit Go.Proofs.Ytjnpopipdnaaiaa.P Go.Proofs.YtjnpopipdnaaiaaW.PrintWords Go.Proofs.YtjnpopipdnaaiaaW.PrintLast Go.Proofs.YtjnpopipdnaaiaaW.PrintMore

theorem FnExactTwiceProduct (a b c d e f g h : Int) (_ : (Lit.int .i64 a).wf = true) (_ : (Lit.int .i64 b).wf = true) (_ : (Lit.int .i64 c).wf = true) (_ : (Lit.int .i64 d).wf = true) (_ : (Lit.int .i64 e).wf = true) (_ : (Lit.int .i64 f).wf = true) (_ : (Lit.int .i64 g).wf = true) (_ : (Lit.int .i64 h).wf = true) : ∃ k, laws_FnExactTwiceProduct.f k a b c d e f g h = some true := by
  suffices h : Ev (fun k => laws_FnExactTwiceProduct.f k a b c d e f g h) true by
    obtain ⟨K, h⟩ := h
    exact ⟨K, h K (Nat.le_refl _)⟩
  unfold laws_FnExactTwiceProduct.f laws_toCircle.f
  simp only [Option.bind_some]
  obtain ⟨p, h1, h2⟩ : ∃ p, Ev (fun k => spec_TwiceProduct.f k a b c d e f g h) p ∧ impl_TwiceProduct.f a b c d e f g h = some p := by
    unfold spec_TwiceProduct.f impl_TwiceProduct.f impl_areCircles.f
    simp only [List.all_cons, List.all_nil, Bool.and_true, Option.bind_some, ciTwice_f]
    have e1 := ciGood_ev a b c d
    have e2 := ciGood_ev e f g h
    cases h1 : isC ⟨a, b, c, d⟩ with
    | false =>
      rw [h1] at e1
      exact ⟨(0, false), Ev.bind e1 (Ev.now _), rfl⟩
    | true =>
      rw [h1] at e1
      cases h2 : isC ⟨e, f, g, h⟩ with
      | false =>
        rw [h2] at e2
        exact ⟨(0, false), Ev.bind e1 (Ev.bind e2 (Ev.now _)), rfl⟩
      | true =>
        rw [h2] at e2
        unfold impl_twice.f
        exact ⟨_, Ev.bind e1 (Ev.bind e2 (Ev.now _)), rfl⟩
  refine Ev.bind h1 ?_
  rw [h2]
  simp only [Option.bind_some, bne_self_eq_false, Bool.false_eq_true, if_false, if_true]
  exact Ev.now _

end Go.Proofs.Ytjnpopipdnaaiaa.Pure
