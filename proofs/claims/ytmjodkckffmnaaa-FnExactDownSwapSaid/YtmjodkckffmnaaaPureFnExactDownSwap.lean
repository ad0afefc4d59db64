/- For every input the statement FnExactDownSwap holds of what the program and the reference compute, told as plain Lean functions; there is no further condition. -/
import Derived.Test.YtmjodkckffmnaaaP10
import Derived.Test.YtmjodkckffmnaaaP11
import Derived.Test.YtmjodkckffmnaaaLeFnExactDownSwap
namespace Go.Proofs.Ytmjodkckffmnaaa.Pure
open Go.RowKit Go.Proofs.Ytmjodkckffmnaaa.P Go.Proofs.YtmjodkckffmnaaaW.PrintWords Go.Proofs.YtmjodkckffmnaaaW.PrintLast Go.Proofs.YtmjodkckffmnaaaW.PrintMore

theorem FnExactDownSwap : laws_FnExactDownSwap.Pure := by
  intro l hm hc hw
  have hml : l.length ≤ 35184372088832 := by omega
  suffices h : Ev (fun k => laws_FnExactDownSwap.f k l) true by
    obtain ⟨K, h⟩ := h
    exact ⟨K, h K (Nat.le_refl _)⟩
  unfold laws_FnExactDownSwap.f
  by_cases hb : (l.length : Int) > 1048576
  · simp only [if_pos hb]
    exact Ev.now _
  · simp only [if_neg hb]
    have hto := toIntS_ev l hml
    have hel := eqIntS_ev l (by omega)
    have hu := isQuad_ev l
    have ht := apGood_ev l (by omega)
    obtain ⟨p, b, hp, hq⟩ : ∃ p b, Ev (fun k => spec_DownSwap.f k l) (p, b) ∧ Ev (fun k => impl_DownSwap.f k l) (p, b) := by
      by_cases hu' : quadB l = true
      · rw [hu'] at ht hu
        have hr := root_iff l
        by_cases hd : dwn l < 0
        · rw [decide_eq_true hd] at hr
          have e := isRoot_ev hu'
          rw [hr] at e
          refine ⟨0, false, ?_, ?_⟩
          · unfold spec_DownSwap.f
            refine Ev.bind ht ?_
            simp only [if_true]
            refine Ev.bind (apDown_ev hu') ?_
            simp only [if_pos hd]
            exact Ev.now _
          · unfold impl_DownSwap.f
            refine Ev.bind hu ?_
            simp only [if_true]
            exact Ev.bind e (Ev.now _)
        · rw [decide_eq_false hd] at hr
          have e := isRoot_ev hu'
          rw [hr] at e
          refine ⟨dwn l, true, ?_, ?_⟩
          · unfold spec_DownSwap.f
            refine Ev.bind ht ?_
            simp only [if_true]
            refine Ev.bind (apDown_ev hu') ?_
            simp only [if_neg hd]
            exact Ev.bind (apDown_ev hu') (Ev.now _)
          · unfold impl_DownSwap.f
            refine Ev.bind hu ?_
            simp only [if_true]
            refine Ev.bind e ?_
            simp only [Bool.false_eq_true, if_false]
            have hx : dwn l = ((argm l 0 0 4 : Nat) : Int) := by
              unfold dwn dres at hd ⊢
              split
              · rename_i h
                rw [if_pos h] at hd
                omega
              · rfl
            rw [hx]
            exact Ev.bind (greatest_ev hu') (Ev.now _)
      · rw [Bool.eq_false_iff.2 hu'] at ht hu
        refine ⟨0, false, ?_, ?_⟩
        · unfold spec_DownSwap.f
          exact Ev.bind ht (Ev.now _)
        · unfold impl_DownSwap.f
          exact Ev.bind hu (Ev.now _)
    repeat (first
      | with_reducible exact Ev.now _
      | with_reducible refine Ev.bind hto ?_
      | with_reducible refine Ev.bind hp ?_
      | with_reducible refine Ev.bind hq ?_
      | with_reducible refine Ev.bind hel ?_
      | with_reducible refine Ev.step (fun _ => laws_FnExactDownSwap.j0.eq_2 ..) ?_
      | simp only [bne_self_eq_false, Bool.false_eq_true, if_true, if_false, eq_self])

end Go.Proofs.Ytmjodkckffmnaaa.Pure
