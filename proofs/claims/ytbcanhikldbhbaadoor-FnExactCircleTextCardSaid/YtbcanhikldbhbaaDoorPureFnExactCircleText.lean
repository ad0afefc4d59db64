/- For every input the statement FnExactCircleText holds of what the program and the reference compute, told as plain Lean functions; there is no further condition. -/
import Derived.Test.YtbcanhikldbhbaaDoorP3
import Derived.Test.YtbcanhikldbhbaaDoorP5
import Derived.Test.YtbcanhikldbhbaaDoorLeFnExactCircleText
namespace Go.Proofs.YtbcanhikldbhbaaDoor.Pure
open Go.RowKit Go.Proofs.YtbcanhikldbhbaaDoor.P Go.Proofs.YtbcanhikldbhbaaDoorW.PrintWords Go.Proofs.YtbcanhikldbhbaaDoorW.PrintLast Go.Proofs.YtbcanhikldbhbaaDoorW.PrintMore

theorem FnExactCircleText (a b c d : Int) : ∃ k, laws_FnExactCircleText.f k a b c d = some true := by
  suffices h : Ev (fun k => laws_FnExactCircleText.f k a b c d) true by
    obtain ⟨K, h⟩ := h
    exact ⟨K, h K (Nat.le_refl _)⟩
  unfold laws_FnExactCircleText.f laws_toCircle.f
  simp only [Option.bind_some]
  refine Ev.bind (specText_ev a b c d) ?_
  refine Ev.bind (implText_ev a b c d) ?_
  simp only [bne_self_eq_false, Bool.false_eq_true, if_false, if_true]
  exact Ev.now _

end Go.Proofs.YtbcanhikldbhbaaDoor.Pure
