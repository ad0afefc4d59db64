/- For every input the statement FnExactCurvaturesOf holds of what the program and the reference compute, told as plain Lean functions; there is no further condition. -/
import Derived.Test.YtjnpopipdnaaiaaP0
import Derived.Test.YtjnpopipdnaaiaaP29
import Derived.Test.YtjnpopipdnaaiaaP30
import Derived.Test.YtjnpopipdnaaiaaP31
import Derived.Test.YtjnpopipdnaaiaaLeFnExactCurvaturesOf
namespace Go.Proofs.Ytjnpopipdnaaiaa.Pure
open Go.RowKit Go.Proofs.Ytjnpopipdnaaiaa.P Go.Proofs.YtjnpopipdnaaiaaW.PrintWords Go.Proofs.YtjnpopipdnaaiaaW.PrintLast Go.Proofs.YtjnpopipdnaaiaaW.PrintMore

theorem curvS_l (l : List S25) (hl : l.length ≤ 100000) (d : Nat) : ∀ (i : Nat) (x : List Int), i + d = l.length → x.length ≤ i → Ev (fun k => spec_ciCurvatures.l0 k x l (l.length : Int) (i : Int)) (x ++ (l.drop i).map S25.f1) := by
  induction d with
  | zero =>
    intro i x hi hx
    rw [List.drop_of_length_le (by omega)]
    refine Ev.step (f := fun _ => some x) (fun k => ?_) (by simp only [List.map_nil, List.append_nil]; exact Ev.now _)
    simp only [spec_ciCurvatures.l0]
    rw [if_neg (by omega)]
  | succ d ih =>
    intro i x hi hx
    have hil : i < l.length := by omega
    rw [List.drop_eq_getElem_cons hil]
    refine Ev.step (f := fun k => spec_ciCurvatures.l0 k (x ++ [l[i].f1]) l (l.length : Int) ((i + 1 : Nat) : Int)) (fun k => ?_) (by
      have := ih (i + 1) (x ++ [l[i].f1]) (by omega) (by simp; omega)
      rw [List.append_assoc] at this
      exact this)
    simp only [spec_ciCurvatures.l0]
    rw [if_pos (by omega), if_pos (by omega), if_pos (by omega), if_pos (by omega), rdC_at hil, wrap_id (by omega) (by omega), show ((i : Int) + 1) = ((i + 1 : Nat) : Int) by omega]
theorem curvI_l (l : List S25) (hl : l.length ≤ 100000) (d : Nat) : ∀ (i : Nat) (x : List Int), i + d = l.length → x.length ≤ i → Ev (fun k => impl_curvatures.l0 k x l (l.length : Int) (i : Int)) (x ++ (l.drop i).map S25.f1) := by
  induction d with
  | zero =>
    intro i x hi hx
    rw [List.drop_of_length_le (by omega)]
    refine Ev.step (f := fun _ => some x) (fun k => ?_) (by simp only [List.map_nil, List.append_nil]; exact Ev.now _)
    simp only [impl_curvatures.l0]
    rw [if_neg (by omega)]
  | succ d ih =>
    intro i x hi hx
    have hil : i < l.length := by omega
    rw [List.drop_eq_getElem_cons hil]
    refine Ev.step (f := fun k => impl_curvatures.l0 k (x ++ [l[i].f1]) l (l.length : Int) ((i + 1 : Nat) : Int)) (fun k => ?_) (by
      have := ih (i + 1) (x ++ [l[i].f1]) (by omega) (by simp; omega)
      rw [List.append_assoc] at this
      exact this)
    simp only [impl_curvatures.l0]
    rw [if_pos (by omega), if_pos (by omega), if_pos (by omega), if_pos (by omega), rdC_at hil, wrap_id (by omega) (by omega), show ((i : Int) + 1) = ((i + 1 : Nat) : Int) by omega]
theorem FnExactCurvaturesOf (l : List S23) (_ : l.length ≤ maxLen) (h32 : l.length * 32 ≤ 140737488351232) (_ : ∀ x ∈ l, (Lit.int .i64 x.f0).wf = true ∧ (Lit.int .i64 x.f1).wf = true ∧ (Lit.int .i64 x.f2).wf = true ∧ (Lit.int .i64 x.f3).wf = true) : ∃ k, laws_FnExactCurvaturesOf.f k l = some true := by
  have hml : l.length ≤ 8796093022208 := by omega
  suffices h : Ev (fun k => laws_FnExactCurvaturesOf.f k l) true by
    obtain ⟨K, h⟩ := h
    exact ⟨K, h K (Nat.le_refl _)⟩
  unfold laws_FnExactCurvaturesOf.f
  rw [szCircleS_f l hml]
  simp only [Option.bind_some]
  by_cases hb : l.length ≤ 1048576
  · simp only [if_pos hb, if_neg (show ¬ (1048576 - (l.length : Int) < 0) by omega)]
    have hto := toCircleS_ev l hml
    have hel := eqCircleS_ev (l.map toC) (by simp; omega)
    have hmk := markCircleS_ev (l.map toC) (by simp; omega)
    obtain ⟨p, b, hp, hq, hpl⟩ : ∃ p b, Ev (fun k => spec_CurvaturesOf.f k (l.map toC)) (p, b) ∧ Ev (fun k => impl_CurvaturesOf.f k (l.map toC)) (p, b) ∧ p.length ≤ 4 := by
      have e2 := ciConfig_ev (l.map toC)
      have e3 := isConfig_ev (l.map toC)
      unfold spec_CurvaturesOf.f impl_CurvaturesOf.f
      generalize l.map toC = m at *
      cases h : cfgB m with
      | true =>
        rw [h] at e2 e3
        have h4 : m.length = 4 := by
          unfold cfgB fourB at h
          simp only [Bool.and_eq_true, decide_eq_true_eq] at h
          exact h.1.1
        have e4 := curvS_l m (by omega) m.length 0 [] (by omega) (by simp)
        have e5 := curvI_l m (by omega) m.length 0 [] (by omega) (by simp)
        simp only [List.drop_zero, List.nil_append] at e4 e5
        refine ⟨m.map S25.f1, true, Ev.bind e2 ?_, Ev.bind e3 ?_, by simp; omega⟩
        · simp only [if_true]
          exact Ev.bind e4 (Ev.now _)
        · simp only [if_true]
          exact Ev.bind e5 (Ev.now _)
      | false =>
        rw [h] at e2 e3
        exact ⟨[], false, Ev.bind e2 (Ev.now _), Ev.bind e3 (Ev.now _), by simp⟩
    have hep := eqIntS_ev p (by omega)
    have hmp := markIntS_ev p (by omega)
    have hhp := heldIntS_ev p.length (by omega)
    have n1 : ¬ (1 + 4 * ((l.map toC).length : Int) < 0) := by omega
    have n2 : ¬ (1 + (p.length : Int) < 0) := by omega
    repeat (first
      | with_reducible exact Ev.now _
      | with_reducible refine Ev.bind hto ?_
      | with_reducible refine Ev.bind hp ?_
      | with_reducible refine Ev.bind hq ?_
      | with_reducible refine Ev.bind hel ?_
      | with_reducible refine Ev.bind hmk ?_
      | with_reducible refine Ev.bind hep ?_
      | with_reducible refine Ev.bind hmp ?_
      | with_reducible refine Ev.bind hhp ?_
      | with_reducible refine Ev.step (fun _ => laws_FnExactCurvaturesOf.j0.eq_2 ..) ?_
      | with_reducible refine Ev.step (fun _ => laws_FnExactCurvaturesOf.j1.eq_2 ..) ?_
      | with_reducible refine Ev.step (fun _ => laws_FnExactCurvaturesOf.j2.eq_2 ..) ?_
      | simp only [bne_self_eq_false, Bool.false_eq_true, if_true, if_false, eq_self, n1, n2])
  · simp only [if_neg hb]
    exact Ev.now _

end Go.Proofs.Ytjnpopipdnaaiaa.Pure
