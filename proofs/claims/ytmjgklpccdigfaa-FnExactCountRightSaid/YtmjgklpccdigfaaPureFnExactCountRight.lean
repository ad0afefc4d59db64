/- For every input the statement FnExactCountRight holds of what the program and the reference compute, told as plain Lean functions; there is no further condition. -/
import Derived.Test.YtmjgklpccdigfaaP34
import Derived.Test.YtmjgklpccdigfaaLeFnExactCountRight
namespace Go.Proofs.Ytmjgklpccdigfaa.Pure
open Go.RowKit Go.Proofs.Ytmjgklpccdigfaa.P Go.Proofs.YtmjgklpccdigfaaW.PrintWords Go.Proofs.YtmjgklpccdigfaaW.PrintLast Go.Proofs.YtmjgklpccdigfaaW.PrintMore

theorem FnExactCountRight : laws_FnExactCountRight.Pure := by
  intro a0 hw
  obtain ⟨r, b, _, h2, _, _, h5⟩ := right_both a0
  suffices h : Ev (fun k => laws_FnExactCountRight.f k a0) true by
    obtain ⟨K, h⟩ := h
    exact ⟨K, h K (Nat.le_refl _)⟩
  unfold laws_FnExactCountRight.f
  refine Ev.bind h5 ?_
  refine Ev.bind (a := ((r.length : Int), b)) (by unfold impl_CountRight.f; exact Ev.bind h2 (Ev.now _)) ?_
  simp only [bne_self_eq_false, Bool.false_eq_true, if_true, if_false]
  exact Ev.now _

end Go.Proofs.Ytmjgklpccdigfaa.Pure
