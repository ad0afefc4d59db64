/- For every input the statement FnExactIsConfig holds of what the program and the reference compute, told as plain Lean functions; there is no further condition. -/
import Derived.Test.YtjnpopipdnaaiaaP0
import Derived.Test.YtjnpopipdnaaiaaP10
import Derived.Test.YtjnpopipdnaaiaaP11
import Derived.Test.YtjnpopipdnaaiaaLeFnExactIsConfig
namespace Go.Proofs.Ytjnpopipdnaaiaa.Pure
open Go.RowKit Go.Proofs.Ytjnpopipdnaaiaa.P Go.Proofs.YtjnpopipdnaaiaaW.PrintWords Go.Proofs.YtjnpopipdnaaiaaW.PrintLast Go.Proofs.YtjnpopipdnaaiaaW.PrintMore

theorem FnExactIsConfig (l : List S23) (_ : l.length ≤ maxLen) (h32 : l.length * 32 ≤ 140737488351232) (_ : ∀ x ∈ l, (Lit.int .i64 x.f0).wf = true ∧ (Lit.int .i64 x.f1).wf = true ∧ (Lit.int .i64 x.f2).wf = true ∧ (Lit.int .i64 x.f3).wf = true) : ∃ k, laws_FnExactIsConfig.f k l = some true := by
  have hml : l.length ≤ 8796093022208 := by omega
  suffices h : Ev (fun k => laws_FnExactIsConfig.f k l) true by
    obtain ⟨K, h⟩ := h
    exact ⟨K, h K (Nat.le_refl _)⟩
  unfold laws_FnExactIsConfig.f
  rw [szCircleS_f l hml]
  simp only [Option.bind_some]
  by_cases hb : l.length ≤ 1048576
  · simp only [if_pos hb, if_neg (show ¬ (1048576 - (l.length : Int) < 0) by omega)]
    have hto := toCircleS_ev l hml
    have hel := eqCircleS_ev (l.map toC) (by simp; omega)
    obtain ⟨p, b, hp, hq⟩ : ∃ p b, Ev (fun k => spec_IsConfig.f k (l.map toC)) (p, b) ∧ Ev (fun k => impl_IsConfig.f k (l.map toC)) (p, b) := by
      have e1 := ciFour_ev (l.map toC)
      have e2 := ciConfig_ev (l.map toC)
      have e3 := isConfig_ev (l.map toC)
      unfold spec_IsConfig.f impl_IsConfig.f
      rw [areFour_f]
      simp only [Option.bind_some]
      generalize l.map toC = m at *
      cases h : fourB m with
      | true =>
        rw [h] at e1
        refine ⟨cfgB m, true, Ev.bind e1 ?_, ?_⟩
        · simp only [if_true]
          exact Ev.bind e2 (Ev.now _)
        · simp only [if_true]
          exact Ev.bind e3 (Ev.now _)
      | false =>
        rw [h] at e1
        exact ⟨false, false, Ev.bind e1 (Ev.now _), Ev.now _⟩
    repeat (first
      | with_reducible exact Ev.now _
      | with_reducible refine Ev.bind hto ?_
      | with_reducible refine Ev.bind hp ?_
      | with_reducible refine Ev.bind hq ?_
      | with_reducible refine Ev.bind hel ?_
      | with_reducible refine Ev.step (fun _ => laws_FnExactIsConfig.j0.eq_2 ..) ?_
      | simp only [bne_self_eq_false, Bool.false_eq_true, if_true, if_false, eq_self])
  · simp only [if_neg hb]
    exact Ev.now _

end Go.Proofs.Ytjnpopipdnaaiaa.Pure
