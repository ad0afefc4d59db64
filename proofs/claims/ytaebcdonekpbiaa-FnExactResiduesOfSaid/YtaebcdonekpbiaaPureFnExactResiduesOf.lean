/- For every input the statement FnExactResiduesOf holds of what the program and the reference compute, told as plain Lean functions; there is no further condition. -/
import Derived.Test.YtaebcdonekpbiaaP10
import Derived.Test.YtaebcdonekpbiaaLeFnExactResiduesOf
namespace Go.Proofs.Ytaebcdonekpbiaa.Pure
open Go.RowKit Go.Proofs.Ytaebcdonekpbiaa.P Go.Proofs.YtaebcdonekpbiaaW.PrintWords Go.Proofs.YtaebcdonekpbiaaW.PrintLast Go.Proofs.YtaebcdonekpbiaaW.PrintMore

theorem FnExactResiduesOf : laws_FnExactResiduesOf.Pure := by
  intro l hm hc hw
  have hml : l.length ≤ 35184372088832 := by omega
  suffices h : Ev (fun k => laws_FnExactResiduesOf.f k l) true by
    obtain ⟨K, h⟩ := h
    exact ⟨K, h K (Nat.le_refl _)⟩
  unfold laws_FnExactResiduesOf.f
  by_cases hb : (l.length : Int) > 1048576
  · simp only [if_pos hb]
    exact Ev.now _
  · simp only [if_neg hb]
    have hto := toIntS_ev l hml
    have hel := eqIntS_ev l (by omega)
    have hmk := markIntS_ev l (by omega)
    obtain ⟨p, b, hlen, hp, hq⟩ := both6 l (by omega)
    have hep := eqIntS_ev p (by omega)
    have hmp := markIntS_ev p (by omega)
    have hhp := heldIntS_ev p.length (by omega)
    have n1 : ¬ (1 + (l.length : Int) < 0) := by omega
    have n2 : ¬ (1 + (p.length : Int) < 0) := by omega
    repeat (first
      | with_reducible exact Ev.now _
      | with_reducible refine Ev.bind hto ?_
      | with_reducible refine Ev.bind hp ?_
      | with_reducible refine Ev.bind hq ?_
      | with_reducible refine Ev.bind hel ?_
      | with_reducible refine Ev.bind hmk ?_
      | with_reducible refine Ev.bind hep ?_
      | with_reducible refine Ev.bind hmp ?_
      | with_reducible refine Ev.bind hhp ?_
      | with_reducible refine Ev.step (fun _ => laws_FnExactResiduesOf.j0.eq_2 ..) ?_
      | with_reducible refine Ev.step (fun _ => laws_FnExactResiduesOf.j1.eq_2 ..) ?_
      | with_reducible refine Ev.step (fun _ => laws_FnExactResiduesOf.j2.eq_2 ..) ?_
      | simp only [bne_self_eq_false, Bool.false_eq_true, if_true, if_false, eq_self, n1, n2])

end Go.Proofs.Ytaebcdonekpbiaa.Pure
