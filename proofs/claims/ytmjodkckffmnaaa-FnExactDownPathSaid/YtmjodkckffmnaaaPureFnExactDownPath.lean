/- For every input the statement FnExactDownPath holds of what the program and the reference compute, told as plain Lean functions; there is no further condition. -/
import Derived.Test.YtmjodkckffmnaaaP11
import Derived.Test.YtmjodkckffmnaaaDevFnExactDownPath
import Derived.Test.YtmjodkckffmnaaaLeFnExactDownPath
namespace Go.Proofs.Ytmjodkckffmnaaa.Pure
open Go.RowKit Go.Proofs.Ytmjodkckffmnaaa.P Go.Proofs.YtmjodkckffmnaaaW.PrintWords Go.Proofs.YtmjodkckffmnaaaW.PrintLast Go.Proofs.YtmjodkckffmnaaaW.PrintMore

theorem FnExactDownPath (l : List Int) (_ : l.length ≤ maxLen) (hc : l.length * 8 ≤ 140737488351232) (_ : ∀ x ∈ l, (Lit.int .i64 x).wf = true) : ∃ k, laws_FnExactDownPath.f k l = some true := by
  have hml : l.length ≤ 35184372088832 := by omega
  suffices h : Ev (fun k => laws_FnExactDownPath.f k l) true by
    obtain ⟨K, h⟩ := h
    exact ⟨K, h K (Nat.le_refl _)⟩
  unfold laws_FnExactDownPath.f
  by_cases hb : (l.length : Int) > 1048576
  · simp only [if_pos hb]
    exact Ev.now _
  · simp only [if_neg hb]
    unfold laws_FnExactDownPath.g
    have h1 := pathR_len l
    have h2 := pathR_cells l
    refine Ev.bind (toIntS_ev l hml) ?_
    refine Ev.bind (downS_ev l (by omega)) ?_
    refine Ev.bind (downI_ev l) ?_
    simp only [if_true]
    refine Ev.bind (eqIntS_ev l (by omega)) ?_
    simp only [if_true]
    refine Ev.bind (markIntS_ev l (by omega)) ?_
    simp only [if_neg (show ¬ (1 + (l.length : Int) < 0) by omega), if_pos (show ((pathR l).1.length : Int) ≤ 9223372036854775806 ∧ (cellsOf (pathR l).1 : Int) + 1 ≤ 4611686018427387904 by omega)]
    exact Ev.now _

end Go.Proofs.Ytmjodkckffmnaaa.Pure
