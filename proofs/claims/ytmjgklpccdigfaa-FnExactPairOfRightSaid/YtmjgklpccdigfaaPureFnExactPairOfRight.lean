/- For every input the statement FnExactPairOfRight holds of what the program and the reference compute, told as plain Lean functions; there is no further condition. -/
import Derived.Test.YtmjgklpccdigfaaP4
import Derived.Test.YtmjgklpccdigfaaP5
import Derived.Test.YtmjgklpccdigfaaRi
import Derived.Test.YtmjgklpccdigfaaCm
namespace Go.Proofs.Ytmjgklpccdigfaa.Pure
open Go.RowKit Go.Proofs.Ytmjgklpccdigfaa.P Go.Proofs.YtmjgklpccdigfaaW.PrintWords Go.Proofs.YtmjgklpccdigfaaW.PrintLast Go.Proofs.YtmjgklpccdigfaaW.PrintMore

theorem FnExactPairOfRight : laws_FnExactPairOfRight.Pure := by
  intro l hm hc hw
  have hml : l.length ≤ 35184372088832 := by omega
  suffices h : Ev (fun k => laws_FnExactPairOfRight.f k l) true by
    obtain ⟨K, h⟩ := h
    exact ⟨K, h K (Nat.le_refl _)⟩
  unfold laws_FnExactPairOfRight.f
  by_cases hb : (l.length : Int) > 1048576
  · simp only [if_pos hb]
    exact Ev.now _
  · simp only [if_neg hb]
    have hto := toIntS_ev l hml
    obtain ⟨t, ht, hti⟩ := spec_right l (by omega)
    obtain ⟨u, hu, hui⟩ := impl_right l
    have hut : u = t := by rw [Bool.eq_iff_iff, hti, hui]
    subst hut
    obtain ⟨p, hp, hq⟩ : ∃ p, Ev (fun k => spec_PairOfRight.f k l) p ∧ Ev (fun k => impl_PairOfRight.f k l) p := by
      by_cases hu' : u = true
      · have hR := hui.1 hu'
        obtain ⟨x, y, z, rfl⟩ := three (right_len hR)
        subst hu'
        have hbb := (right_iff.1 hR).1
        have hlt : x < z := by
          obtain ⟨m, n, h, e⟩ := hR
          have := (tri_bounds h).2
          simp only [tri, List.cons.injEq, and_true] at e
          omega
        obtain ⟨r, s, hr, hs, e1⟩ := riBack_ev (y := y) hbb.1 hbb.2.2 hlt
        obtain ⟨r', s', hr', hs', e2⟩ := pairOf_ev (y := y) hbb.1 hbb.2.2 hlt
        have a1 := hr'.uniq hr
        have a2 := hs'.uniq hs
        subst a1 a2
        refine ⟨(r', s', true), ?_, ?_⟩
        · unfold spec_PairOfRight.f
          refine Ev.bind ht ?_
          simp only [if_true]
          exact Ev.bind e1 (Ev.now _)
        · unfold impl_PairOfRight.f
          refine Ev.bind hu ?_
          simp only [if_true]
          exact Ev.bind e2 (Ev.now _)
      · refine ⟨(0, 0, false), ?_, ?_⟩
        · unfold spec_PairOfRight.f
          refine Ev.bind ht ?_
          simp only [if_neg hu']
          exact Ev.now _
        · unfold impl_PairOfRight.f
          refine Ev.bind hu ?_
          simp only [if_neg hu']
          exact Ev.now _
    refine Ev.bind hto (Ev.bind hp (Ev.bind hto (Ev.bind hq ?_)))
    simp only [if_true, bne_self_eq_false]
    obtain ⟨K, hK⟩ := Ev.bind (f := fun k t => (laws_eqIntS.f k l t).bind fun t183 => (if t183 = true then (some true) else (some false))) hto (Ev.bind (f := fun k t => if t = true then (some true) else (some false)) (eqIntS_ev l (by omega)) (Ev.now _))
    refine Ev.from (K + 1) (fun k hk => ?_)
    obtain ⟨k, rfl⟩ : ∃ m, k = m + 1 := ⟨k - 1, by omega⟩
    have := hK k (by omega)
    simpa [laws_FnExactPairOfRight.j0] using this

end Go.Proofs.Ytmjgklpccdigfaa.Pure
