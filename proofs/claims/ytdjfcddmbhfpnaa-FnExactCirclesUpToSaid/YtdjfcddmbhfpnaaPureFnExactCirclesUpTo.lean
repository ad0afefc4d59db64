/- For every input the statement FnExactCirclesUpTo holds of what the program and the reference compute, told as plain Lean functions; there is no further condition. -/
import Derived.Test.YtdjfcddmbhfpnaaP0
import Derived.Test.YtdjfcddmbhfpnaaP18
import Derived.Test.YtdjfcddmbhfpnaaLeFnExactCirclesUpTo
namespace Go.Proofs.Ytdjfcddmbhfpnaa.Pure
open Go.RowKit Go.Proofs.Ytdjfcddmbhfpnaa.P Go.Proofs.YtdjfcddmbhfpnaaW.PrintWords Go.Proofs.YtdjfcddmbhfpnaaW.PrintLast Go.Proofs.YtdjfcddmbhfpnaaW.PrintMore

theorem FnExactCirclesUpTo (l : List S46) (most : Int) (_ : l.length ≤ maxLen) (h32 : l.length * 32 ≤ 140737488351232) (_ : ∀ x ∈ l, (Lit.int .i64 x.f0).wf = true ∧ (Lit.int .i64 x.f1).wf = true ∧ (Lit.int .i64 x.f2).wf = true ∧ (Lit.int .i64 x.f3).wf = true) (_ : (Lit.int .i64 most).wf = true) : ∃ k, laws_FnExactCirclesUpTo.f k l most = some true := by
  have hml : l.length ≤ 8796093022208 := by omega
  suffices h : Ev (fun k => laws_FnExactCirclesUpTo.f k l most) true by
    obtain ⟨K, h⟩ := h
    exact ⟨K, h K (Nat.le_refl _)⟩
  unfold laws_FnExactCirclesUpTo.f
  rw [szCircleS_f l hml]
  simp only [Option.bind_some]
  by_cases hb : l.length ≤ 1048576
  · simp only [if_pos hb, if_neg (show ¬ (1048576 - (l.length : Int) < 0) by omega)]
    have hto := toCircleS_ev l hml
    have hel := eqCircleS_ev (l.map toC) (by simp; omega)
    have hmk := markCircleS_ev (l.map toC) (by simp; omega)
    have hll : (l.map toC).length = l.length := by simp
    obtain ⟨⟨p, b⟩, hp, hq, hpl⟩ := up_both (l.map toC) most (by omega)
    simp only at hpl
    have hep := eqCircleS_ev p (by omega)
    have hmp := markCircleS_ev p (by omega)
    have hhp := heldCircleS_ev p.length (by omega)
    have n1 : ¬ (1 + 4 * ((l.map toC).length : Int) < 0) := by omega
    have n2 : ¬ (1 + 4 * (p.length : Int) < 0) := by omega
    repeat (first
      | with_reducible exact Ev.now _
      | with_reducible refine Ev.bind hto ?_
      | with_reducible refine Ev.bind hp ?_
      | with_reducible refine Ev.bind hq ?_
      | with_reducible refine Ev.bind hel ?_
      | with_reducible refine Ev.bind hmk ?_
      | with_reducible refine Ev.bind hep ?_
      | with_reducible refine Ev.bind hmp ?_
      | with_reducible refine Ev.bind hhp ?_
      | with_reducible refine Ev.step (fun _ => laws_FnExactCirclesUpTo.j0.eq_2 ..) ?_
      | with_reducible refine Ev.step (fun _ => laws_FnExactCirclesUpTo.j1.eq_2 ..) ?_
      | with_reducible refine Ev.step (fun _ => laws_FnExactCirclesUpTo.j2.eq_2 ..) ?_
      | simp only [bne_self_eq_false, Bool.false_eq_true, if_true, if_false, eq_self, n1, n2])
  · simp only [if_neg hb]
    exact Ev.now _

end Go.Proofs.Ytdjfcddmbhfpnaa.Pure
