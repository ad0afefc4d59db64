/- For every input the statement FnExactInnerRadius holds of what the program and the reference compute, told as plain Lean functions; there is no further condition. -/
import Derived.Test.YtmjgklpccdigfaaP4
import Derived.Test.YtmjgklpccdigfaaRi
import Derived.Test.YtmjgklpccdigfaaCm
namespace Go.Proofs.Ytmjgklpccdigfaa.Pure
open Go.RowKit Go.Proofs.Ytmjgklpccdigfaa.P Go.Proofs.YtmjgklpccdigfaaW.PrintWords Go.Proofs.YtmjgklpccdigfaaW.PrintLast Go.Proofs.YtmjgklpccdigfaaW.PrintMore

theorem FnExactInnerRadius : laws_FnExactInnerRadius.Pure := by
  intro l hm hc hw
  have hml : l.length ≤ 35184372088832 := by omega
  suffices h : Ev (fun k => laws_FnExactInnerRadius.f k l) true by
    obtain ⟨K, h⟩ := h
    exact ⟨K, h K (Nat.le_refl _)⟩
  unfold laws_FnExactInnerRadius.f
  by_cases hb : (l.length : Int) > 1048576
  · simp only [if_pos hb]
    exact Ev.now _
  · simp only [if_neg hb]
    have hto := toIntS_ev l hml
    obtain ⟨t, ht, hti⟩ := spec_right l (by omega)
    obtain ⟨u, hu, hui⟩ := impl_right l
    have hut : u = t := by rw [Bool.eq_iff_iff, hti, hui]
    subst hut
    obtain ⟨p, hp, hq⟩ : ∃ p, Ev (fun k => spec_InnerRadius.f k l) p ∧ Ev (fun k => impl_InnerRadius.f k l) p := by
      by_cases hu' : u = true
      · obtain ⟨x, y, z, rfl⟩ := three (right_len (hui.1 hu'))
        subst hu'
        refine ⟨(wrap64 (Int.tdiv (wrap64 ((wrap64 (x + y)) - z)) 2), true), ?_, ?_⟩
        · unfold spec_InnerRadius.f
          refine Ev.bind ht ?_
          simp only [rd0, rd1, rd2, List.length_cons, List.length_nil, if_true]
          exact Ev.now _
        · unfold impl_InnerRadius.f
          refine Ev.bind hu ?_
          simp only [rd0, rd1, rd2, List.length_cons, List.length_nil, if_true]
          exact Ev.now _
      · refine ⟨(0, false), ?_, ?_⟩
        · unfold spec_InnerRadius.f
          refine Ev.bind ht ?_
          simp only [if_neg hu']
          exact Ev.now _
        · unfold impl_InnerRadius.f
          refine Ev.bind hu ?_
          simp only [if_neg hu']
          exact Ev.now _
    refine Ev.bind hto (Ev.bind hp (Ev.bind hto (Ev.bind hq ?_)))
    simp only [if_true, bne_self_eq_false]
    obtain ⟨K, hK⟩ := Ev.bind (f := fun k t => (laws_eqIntS.f k l t).bind fun t183 => (if t183 = true then (some true) else (some false))) hto (Ev.bind (f := fun k t => if t = true then (some true) else (some false)) (eqIntS_ev l (by omega)) (Ev.now _))
    refine Ev.from (K + 1) (fun k hk => ?_)
    obtain ⟨k, rfl⟩ : ∃ m, k = m + 1 := ⟨k - 1, by omega⟩
    have := hK k (by omega)
    simpa [laws_FnExactInnerRadius.j0] using this

end Go.Proofs.Ytmjgklpccdigfaa.Pure
