/- For every input the statement FnExactCountUpTo holds of what the program and the reference compute, told as plain Lean functions; there is no further condition. -/
import Derived.Test.YtmjodkckffmnaaaP27
import Derived.Test.YtmjodkckffmnaaaP30
import Derived.Test.YtmjodkckffmnaaaP31
import Derived.Test.YtmjodkckffmnaaaP32
import Derived.Test.YtmjodkckffmnaaaLeFnExactCountUpTo
namespace Go.Proofs.Ytmjodkckffmnaaa.Pure
open Go.RowKit Go.Proofs.Ytmjodkckffmnaaa.P Go.Proofs.YtmjodkckffmnaaaW.PrintWords Go.Proofs.YtmjodkckffmnaaaW.PrintLast Go.Proofs.YtmjodkckffmnaaaW.PrintMore

theorem count_both (l : List Int) (a1 : Int) (hl : (l.length : Int) ≤ 9223372036854775806) : ∃ p b, Ev (fun k => spec_CountUpTo.f k l a1) (p, b) ∧ Ev (fun k => impl_CountUpTo.f k l a1) (p, b) := by
  rcases all_ev l a1 hl with ⟨e1, e2⟩ | ⟨x, rest, e1, e2, _⟩
  · refine ⟨0, false, ?_, ?_⟩
    · unfold spec_CountUpTo.f
      refine Ev.bind e1 ?_
      simp only [Bool.false_eq_true, if_false]
      exact Ev.now _
    · unfold impl_CountUpTo.f
      exact Ev.bind e2 (Ev.now _)
  · refine ⟨((x :: rest).length : Int), true, ?_, ?_⟩
    · unfold spec_CountUpTo.f
      refine Ev.bind e1 ?_
      simp only [if_true]
      exact Ev.now _
    · unfold impl_CountUpTo.f
      refine Ev.bind e2 ?_
      simp only [sortI_len]
      exact Ev.now _
theorem FnExactCountUpTo : laws_FnExactCountUpTo.Pure := by
  intro l i hm hc hw _
  have hml : l.length ≤ 35184372088832 := by omega
  suffices h : Ev (fun k => laws_FnExactCountUpTo.f k l i) true by
    obtain ⟨K, h⟩ := h
    exact ⟨K, h K (Nat.le_refl _)⟩
  unfold laws_FnExactCountUpTo.f
  by_cases hb : (l.length : Int) > 1048576
  · simp only [if_pos hb]
    exact Ev.now _
  · simp only [if_neg hb]
    have hto := toIntS_ev l hml
    have hel := eqIntS_ev l (by omega)
    obtain ⟨p, b, hp, hq⟩ := count_both l i (by omega)
    repeat (first
      | with_reducible exact Ev.now _
      | with_reducible refine Ev.bind hto ?_
      | with_reducible refine Ev.bind hp ?_
      | with_reducible refine Ev.bind hq ?_
      | with_reducible refine Ev.bind hel ?_
      | with_reducible refine Ev.step (fun _ => laws_FnExactCountUpTo.j0.eq_2 ..) ?_
      | simp only [bne_self_eq_false, Bool.false_eq_true, if_true, if_false, eq_self])

end Go.Proofs.Ytmjodkckffmnaaa.Pure
