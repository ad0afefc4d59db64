/- For every input the statement FnExactIsQuad holds of what the program and the reference compute, told as plain Lean functions; there is no further condition. -/
import Derived.Test.YtmjodkckffmnaaaP1
import Derived.Test.YtmjodkckffmnaaaP2
import Derived.Test.YtmjodkckffmnaaaQd
import Derived.Test.YtmjodkckffmnaaaCm
import Derived.Test.YtmjodkckffmnaaaGz
namespace Go.Proofs.Ytmjodkckffmnaaa.Pure
open Go.RowKit Go.Proofs.Ytmjodkckffmnaaa.P Go.Proofs.YtmjodkckffmnaaaW.PrintWords Go.Proofs.YtmjodkckffmnaaaW.PrintLast Go.Proofs.YtmjodkckffmnaaaW.PrintMore

theorem FnExactIsQuad : laws_FnExactIsQuad.Pure := by
  intro l hm hc hw
  have hml : l.length ≤ 35184372088832 := by omega
  suffices h : Ev (fun k => laws_FnExactIsQuad.f k l) true by
    obtain ⟨K, h⟩ := h
    exact ⟨K, h K (Nat.le_refl _)⟩
  unfold laws_FnExactIsQuad.f
  by_cases hb : (l.length : Int) > 1048576
  · simp only [if_pos hb]
    exact Ev.now _
  · simp only [if_neg hb]
    have hto := toIntS_ev l hml
    refine Ev.bind hto (Ev.bind (a := quadB l) ?_ (Ev.bind hto (Ev.bind (isQuad_ev l) ?_)))
    · unfold spec_IsQuad.f
      exact Ev.bind (apGood_ev l (by omega)) (Ev.now _)
    · simp only [bne_self_eq_false, Bool.false_eq_true, if_false]
      refine Ev.bind hto (Ev.bind (eqIntS_ev l (by omega)) ?_)
      exact Ev.now _

end Go.Proofs.Ytmjodkckffmnaaa.Pure
