/- For every input the statement FnExactIsRight holds of what the program and the reference compute, told as plain Lean functions; there is no further condition. -/
import Derived.Test.YtmjgklpccdigfaaP2
import Derived.Test.YtmjgklpccdigfaaP4
import Derived.Test.YtmjgklpccdigfaaRi
import Derived.Test.YtmjgklpccdigfaaCm
namespace Go.Proofs.Ytmjgklpccdigfaa.Pure
open Go.RowKit Go.Proofs.Ytmjgklpccdigfaa.P Go.Proofs.YtmjgklpccdigfaaW.PrintWords Go.Proofs.YtmjgklpccdigfaaW.PrintLast Go.Proofs.YtmjgklpccdigfaaW.PrintMore

theorem FnExactIsRight : laws_FnExactIsRight.Pure := by
  intro l hm hc hw
  have hml : l.length ≤ 35184372088832 := by omega
  suffices h : Ev (fun k => laws_FnExactIsRight.f k l) true by
    obtain ⟨K, h⟩ := h
    exact ⟨K, h K (Nat.le_refl _)⟩
  unfold laws_FnExactIsRight.f
  by_cases hb : (l.length : Int) > 1048576
  · simp only [if_pos hb]
    exact Ev.now _
  · simp only [if_neg hb]
    have hto := toIntS_ev l hml
    obtain ⟨t, ht, hti⟩ := spec_right l (by omega)
    obtain ⟨u, hu, hui⟩ := impl_right l
    have hut : u = t := by rw [Bool.eq_iff_iff, hti, hui]
    subst hut
    refine Ev.bind hto (Ev.bind (a := u) ?_ (Ev.bind hto (Ev.bind hu ?_)))
    · unfold spec_IsRight.f
      exact Ev.bind ht (Ev.now _)
    · simp only [bne_self_eq_false, Bool.false_eq_true, if_false]
      refine Ev.bind hto (Ev.bind (eqIntS_ev l (by omega)) ?_)
      exact Ev.now _

end Go.Proofs.Ytmjgklpccdigfaa.Pure
