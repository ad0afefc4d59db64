/- For every input the statement FnExactIsRoot holds of what the program and the reference compute, told as plain Lean functions; there is no further condition. -/
import Derived.Test.YtmjodkckffmnaaaP6
import Derived.Test.YtmjodkckffmnaaaP7
import Derived.Test.YtmjodkckffmnaaaLeFnExactIsRoot
namespace Go.Proofs.Ytmjodkckffmnaaa.Pure
open Go.RowKit Go.Proofs.Ytmjodkckffmnaaa.P Go.Proofs.YtmjodkckffmnaaaW.PrintWords Go.Proofs.YtmjodkckffmnaaaW.PrintLast Go.Proofs.YtmjodkckffmnaaaW.PrintMore

theorem FnExactIsRoot : laws_FnExactIsRoot.Pure := by
  intro l hm hc hw
  have hml : l.length ≤ 35184372088832 := by omega
  suffices h : Ev (fun k => laws_FnExactIsRoot.f k l) true by
    obtain ⟨K, h⟩ := h
    exact ⟨K, h K (Nat.le_refl _)⟩
  unfold laws_FnExactIsRoot.f
  by_cases hb : (l.length : Int) > 1048576
  · simp only [if_pos hb]
    exact Ev.now _
  · simp only [if_neg hb]
    have hto := toIntS_ev l hml
    have hel := eqIntS_ev l (by omega)
    have hu := isQuad_ev l
    have ht := apGood_ev l (by omega)
    obtain ⟨p, b, hp, hq⟩ : ∃ p b, Ev (fun k => spec_IsRoot.f k l) (p, b) ∧ Ev (fun k => impl_IsRoot.f k l) (p, b) := by
      by_cases hu' : quadB l = true
      · rw [hu'] at ht hu
        refine ⟨decide (dwn l < 0), true, ?_, ?_⟩
        · unfold spec_IsRoot.f
          refine Ev.bind ht ?_
          simp only [if_true]
          exact Ev.bind (apDown_ev hu') (Ev.now _)
        · unfold impl_IsRoot.f
          refine Ev.bind hu ?_
          simp only [if_true]
          rw [← root_iff]
          exact Ev.bind (isRoot_ev hu') (Ev.now _)
      · rw [Bool.eq_false_iff.2 hu'] at ht hu
        refine ⟨false, false, ?_, ?_⟩
        · unfold spec_IsRoot.f
          exact Ev.bind ht (Ev.now _)
        · unfold impl_IsRoot.f
          exact Ev.bind hu (Ev.now _)
    repeat (first
      | with_reducible exact Ev.now _
      | with_reducible refine Ev.bind hto ?_
      | with_reducible refine Ev.bind hp ?_
      | with_reducible refine Ev.bind hq ?_
      | with_reducible refine Ev.bind hel ?_
      | with_reducible refine Ev.step (fun _ => laws_FnExactIsRoot.j0.eq_2 ..) ?_
      | simp only [bne_self_eq_false, Bool.false_eq_true, if_true, if_false, eq_self])

end Go.Proofs.Ytmjodkckffmnaaa.Pure
