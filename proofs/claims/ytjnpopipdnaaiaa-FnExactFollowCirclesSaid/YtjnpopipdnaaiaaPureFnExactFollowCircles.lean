/- For every input the statement FnExactFollowCircles holds of what the program and the reference compute, told as plain Lean functions; there is no further condition. -/
import Derived.Test.YtjnpopipdnaaiaaP0
import Derived.Test.YtjnpopipdnaaiaaP26
import Derived.Test.YtjnpopipdnaaiaaP27
import Derived.Test.YtjnpopipdnaaiaaP40
import Derived.Test.YtjnpopipdnaaiaaLeFnExactFollowCircles
namespace Go.Proofs.Ytjnpopipdnaaiaa.Pure
open Go.RowKit Go.Proofs.Ytjnpopipdnaaiaa.P Go.Proofs.YtjnpopipdnaaiaaW.PrintWords Go.Proofs.YtjnpopipdnaaiaaW.PrintLast Go.Proofs.YtjnpopipdnaaiaaW.PrintMore

theorem FnExactFollowCircles (l : List S23) (w : List Int) (_ : l.length ≤ maxLen) (h32 : l.length * 32 ≤ 140737488351232) (_ : ∀ x ∈ l, (Lit.int .i64 x.f0).wf = true ∧ (Lit.int .i64 x.f1).wf = true ∧ (Lit.int .i64 x.f2).wf = true ∧ (Lit.int .i64 x.f3).wf = true) (_ : w.length ≤ maxLen) (h8 : w.length * 8 ≤ 140737488351232) (_ : ∀ x ∈ w, (Lit.int .i64 x).wf = true) : ∃ k, laws_FnExactFollowCircles.f k l w = some true := by
  have hml : l.length ≤ 8796093022208 := by omega
  have hmw : w.length ≤ 35184372088832 := by omega
  suffices h : Ev (fun k => laws_FnExactFollowCircles.f k l w) true by
    obtain ⟨K, h⟩ := h
    exact ⟨K, h K (Nat.le_refl _)⟩
  unfold laws_FnExactFollowCircles.f
  rw [szCircleS_f l hml]
  simp only [Option.bind_some]
  by_cases hb2 : (w.length : Int) > 1048576
  · simp only [if_pos hb2]
    exact Ev.now _
  · simp only [if_neg hb2]
    by_cases hb : l.length ≤ 1048576
    · simp only [if_pos hb, if_neg (show ¬ (1048576 - (l.length : Int) < 0) by omega)]
      have hto := toCircleS_ev l hml
      have htw := toIntS_ev w hmw
      have hel := eqCircleS_ev (l.map toC) (by simp; omega)
      have hew := eqIntS_ev w (by omega)
      have hmk := markCircleS_ev (l.map toC) (by simp; omega)
      have hll : (l.map toC).length = l.length := by simp
      have hmw : Ev (fun k => laws_markIntS.f k w (1 + 4 * ((l.map toC).length : Int))) (1 + 4 * ((l.map toC).length : Int) + w.length, mkI (1 + 4 * ((l.map toC).length : Int)) w.length) := Ev.from w.length (fun k hk => markIntS_f w _ k hk (by omega) (by omega) (by omega))
      have hp := folS_ev (l.map toC) w (by omega)
      have hq := folI_ev (l.map toC) w
      have hpl := folR_len (l.map toC) w
      generalize folR (l.map toC) w = pb at *
      obtain ⟨p, b⟩ := pb
      simp only at hpl
      have hep := eqCircleS_ev p (by omega)
      have hmp := markCircleS_ev p (by omega)
      have hhp := heldCircleS_ev p.length (by omega)
      have n1 : ¬ (1 + 4 * ((l.map toC).length : Int) + (w.length : Int) < 0) := by omega
      have n2 : ¬ (1 + 4 * (p.length : Int) < 0) := by omega
      repeat (first
        | with_reducible exact Ev.now _
        | with_reducible refine Ev.bind hto ?_
        | with_reducible refine Ev.bind htw ?_
        | with_reducible refine Ev.bind hp ?_
        | with_reducible refine Ev.bind hq ?_
        | with_reducible refine Ev.bind hel ?_
        | with_reducible refine Ev.bind hew ?_
        | with_reducible refine Ev.bind hmk ?_
        | with_reducible refine Ev.bind hmw ?_
        | with_reducible refine Ev.bind hep ?_
        | with_reducible refine Ev.bind hmp ?_
        | with_reducible refine Ev.bind hhp ?_
        | with_reducible refine Ev.step (fun _ => laws_FnExactFollowCircles.j0.eq_2 ..) ?_
        | with_reducible refine Ev.step (fun _ => laws_FnExactFollowCircles.j1.eq_2 ..) ?_
        | with_reducible refine Ev.step (fun _ => laws_FnExactFollowCircles.j2.eq_2 ..) ?_
        | simp only [bne_self_eq_false, Bool.false_eq_true, if_true, if_false, eq_self, n1, n2])
    · simp only [if_neg hb]
      exact Ev.now _

end Go.Proofs.Ytjnpopipdnaaiaa.Pure
