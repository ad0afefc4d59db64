/- For every input the statement FnExactSwapAt holds of what the program and the reference compute, told as plain Lean functions; there is no further condition. -/
import Derived.Test.YtmjodkckffmnaaaP1
import Derived.Test.YtmjodkckffmnaaaP5
import Derived.Test.YtmjodkckffmnaaaP7
import Derived.Test.YtmjodkckffmnaaaP8
import Derived.Test.YtmjodkckffmnaaaLeFnExactSwapAt
namespace Go.Proofs.Ytmjodkckffmnaaa.Pure
open Go.RowKit Go.Proofs.Ytmjodkckffmnaaa.P Go.Proofs.YtmjodkckffmnaaaW.PrintWords Go.Proofs.YtmjodkckffmnaaaW.PrintLast Go.Proofs.YtmjodkckffmnaaaW.PrintMore

theorem swapAt_both (l : List Int) (hl : (l.length : Int) ≤ 9223372036854775806) (i : Int) : ∃ p b, Ev (fun k => spec_SwapAt.f k l i) (p, b) ∧ Ev (fun k => impl_SwapAt.f k l i) (p, b) ∧ p.length ≤ 4 := by
  have hu := isQuad_ev l
  have ht := apGood_ev l hl
  by_cases hq : quadB l = true
  · rw [hq] at hu ht
    by_cases hi : inB 0 3 i = true
    · obtain ⟨h0, h3⟩ := inB_iff.1 hi
      obtain ⟨j, rfl⟩ : ∃ j : Nat, i = j := ⟨i.toNat, by omega⟩
      have hj : j < 4 := by omega
      have h4 : l.length = 4 := by
        obtain ⟨a, b, c, d, rfl, _⟩ := quadB_iff.1 hq
        rfl
      have hs := swap_ev hq hj
      have hg := apGood_ev (swl l j) (by rw [swl_length]; omega)
      cases hqq : quadB (swl l j) with
      | true =>
        rw [hqq] at hs hg
        refine ⟨swl l j, true, ?_, ?_, by rw [swl_length]; omega⟩
        · unfold spec_SwapAt.f
          simp only [l1In_f, Option.bind_some]
          refine Ev.bind ht ?_
          simp only [if_true, hi, Bool.not_true]
          refine Ev.step (fun _ => spec_SwapAt.j0.eq_2 ..) ?_
          simp only [Bool.false_eq_true, if_false, apSwap_f hq hj, Option.bind_some]
          exact Ev.bind hg (Ev.now _)
        · unfold impl_SwapAt.f impl_isIndex.f
          simp only [within_f, Option.bind_some]
          refine Ev.bind hu ?_
          simp only [if_true, hi]
          exact Ev.bind hs (Ev.now _)
      | false =>
        rw [hqq] at hs hg
        refine ⟨[], false, ?_, ?_, by simp⟩
        · unfold spec_SwapAt.f
          simp only [l1In_f, Option.bind_some]
          refine Ev.bind ht ?_
          simp only [if_true, hi, Bool.not_true]
          refine Ev.step (fun _ => spec_SwapAt.j0.eq_2 ..) ?_
          simp only [Bool.false_eq_true, if_false, apSwap_f hq hj, Option.bind_some]
          exact Ev.bind hg (Ev.now _)
        · unfold impl_SwapAt.f impl_isIndex.f
          simp only [within_f, Option.bind_some]
          refine Ev.bind hu ?_
          simp only [if_true, hi]
          exact Ev.bind hs (Ev.now _)
    · refine ⟨[], false, ?_, ?_, by simp⟩
      · unfold spec_SwapAt.f
        simp only [l1In_f, Option.bind_some]
        refine Ev.bind ht ?_
        simp only [if_true, Bool.eq_false_iff.2 hi, Bool.not_false]
        refine Ev.step (fun _ => spec_SwapAt.j0.eq_2 ..) ?_
        simp only [if_true]
        exact Ev.now _
      · unfold impl_SwapAt.f impl_isIndex.f
        simp only [within_f, Option.bind_some]
        refine Ev.bind hu ?_
        simp only [if_true, if_neg hi]
        exact Ev.now _
  · rw [Bool.eq_false_iff.2 hq] at hu ht
    refine ⟨[], false, ?_, ?_, by simp⟩
    · unfold spec_SwapAt.f
      simp only [l1In_f, Option.bind_some]
      refine Ev.bind ht ?_
      simp only [Bool.false_eq_true, if_false]
      refine Ev.step (fun _ => spec_SwapAt.j0.eq_2 ..) ?_
      simp only [if_true]
      exact Ev.now _
    · unfold impl_SwapAt.f impl_isIndex.f
      refine Ev.bind hu ?_
      simp only [Bool.false_eq_true, if_false]
      exact Ev.now _
theorem FnExactSwapAt : laws_FnExactSwapAt.Pure := by
  intro l i hm hc hw _
  have hml : l.length ≤ 35184372088832 := by omega
  suffices h : Ev (fun k => laws_FnExactSwapAt.f k l i) true by
    obtain ⟨K, h⟩ := h
    exact ⟨K, h K (Nat.le_refl _)⟩
  unfold laws_FnExactSwapAt.f
  by_cases hb : (l.length : Int) > 1048576
  · simp only [if_pos hb]
    exact Ev.now _
  · simp only [if_neg hb]
    have hto := toIntS_ev l hml
    have hel := eqIntS_ev l (by omega)
    have hml := markIntS_ev l (by omega)
    obtain ⟨p, b, hp, hq, hpl⟩ := swapAt_both l (by omega) i
    have hep := eqIntS_ev p (by omega)
    have hmp := markIntS_ev p (by omega)
    have hhp := heldIntS_ev p.length (by omega)
    have n1 : ¬ (1 + (l.length : Int) < 0) := by omega
    have n2 : ¬ (1 + (p.length : Int) < 0) := by omega
    repeat (first
      | with_reducible exact Ev.now _
      | with_reducible refine Ev.bind hto ?_
      | with_reducible refine Ev.bind hp ?_
      | with_reducible refine Ev.bind hq ?_
      | with_reducible refine Ev.bind hel ?_
      | with_reducible refine Ev.bind hep ?_
      | with_reducible refine Ev.bind hml ?_
      | with_reducible refine Ev.bind hmp ?_
      | with_reducible refine Ev.bind hhp ?_
      | with_reducible refine Ev.step (fun _ => laws_FnExactSwapAt.j0.eq_2 ..) ?_
      | with_reducible refine Ev.step (fun _ => laws_FnExactSwapAt.j1.eq_2 ..) ?_
      | with_reducible refine Ev.step (fun _ => laws_FnExactSwapAt.j2.eq_2 ..) ?_
      | simp only [bne_self_eq_false, Bool.false_eq_true, if_true, if_false, eq_self, n1, n2])

end Go.Proofs.Ytmjodkckffmnaaa.Pure
