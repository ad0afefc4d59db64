/- For every input the statement FnExactParseCircle holds of what the program and the reference compute, told as plain Lean functions; there is no further condition. -/
import Derived.Test.YtbcanhikldbhbaaDoorP10
import Derived.Test.YtbcanhikldbhbaaDoorLeFnExactParseCircle
import Derived.Lib.AtoiAllCases
import Derived.Lib.IndexBytes
namespace Go.Proofs.YtbcanhikldbhbaaDoor.Pure
open Go.RowKit Go.Proofs.YtbcanhikldbhbaaDoor.P Go.Proofs.YtbcanhikldbhbaaDoorW.PrintWords Go.Proofs.YtbcanhikldbhbaaDoorW.PrintLast Go.Proofs.YtbcanhikldbhbaaDoorW.PrintMore

theorem parse_all (s : ByteArray) : ∃ k, laws_FnExactParseCircle.f k s = some true := by
  suffices h : Ev (fun k => laws_FnExactParseCircle.f k s) true by
    obtain ⟨K, h⟩ := h
    exact ⟨K, h K (Nat.le_refl _)⟩
  unfold laws_FnExactParseCircle.f
  by_cases hs : (s.size : Int) > 1048576
  · simp only [if_pos hs]
    exact Ev.now _
  · simp only [if_neg hs]
    have hs' : s.size ≤ 1048576 := by omega
    by_cases hc : ∃ a b c d, isc a b c d = true ∧ ctx a b c d = s
    · obtain ⟨a, b, c, d, h, he⟩ := hc
      refine Ev.bind (spec_yes s hs' h he) (Ev.bind (impl_yes s hs' h he) ?_)
      simp only [laws_eqCircle.f, if_true, Option.bind_some, bne_self_eq_false, Bool.false_eq_true, if_false]
      exact Ev.now _
    · have hno : ∀ a b c d, isc a b c d = true → ctx a b c d ≠ s := fun a b c d h e => hc ⟨a, b, c, d, h, e⟩
      refine Ev.bind (spec_no s hs' hno) (Ev.bind (impl_no s hs' hno) ?_)
      simp only [laws_eqCircle.f, if_true, Option.bind_some, bne_self_eq_false, Bool.false_eq_true, if_false]
      exact Ev.now _
theorem FnExactParseCircle : laws_FnExactParseCircle.Pure := fun s _ => parse_all s

end Go.Proofs.YtbcanhikldbhbaaDoor.Pure
