/- For every input the statement FnExactStartConfig holds of what the program and the reference compute, told as plain Lean functions; there is no further condition. -/
import Derived.Test.YtjnpopipdnaaiaaP5
import Derived.Test.YtjnpopipdnaaiaaP6
import Derived.Test.YtjnpopipdnaaiaaP7
import Derived.Test.YtjnpopipdnaaiaaLeFnExactStartConfig
namespace Go.Proofs.Ytjnpopipdnaaiaa.Pure
open Go.RowKit Go.Proofs.Ytjnpopipdnaaiaa.P Go.Proofs.YtjnpopipdnaaiaaW.PrintWords Go.Proofs.YtjnpopipdnaaiaaW.PrintLast Go.Proofs.YtjnpopipdnaaiaaW.PrintMore

theorem FnExactStartConfig : laws_FnExactStartConfig.Pure := by
  intro a _
  suffices h : Ev (fun k => laws_FnExactStartConfig.f k a) true by
    obtain ⟨K, h⟩ := h
    exact ⟨K, h K (Nat.le_refl _)⟩
  obtain ⟨l, b, hs, hl⟩ : ∃ l b, spec_StartConfig.f a = some (l, b) ∧ l.length ≤ 4 := by
    unfold spec_StartConfig.f
    by_cases h0 : a = 0
    · exact ⟨_, _, if_pos h0, by simp⟩
    · by_cases h1 : a = 1
      · exact ⟨_, _, (if_neg h0).trans (if_pos h1), by simp⟩
      · exact ⟨_, _, (if_neg h0).trans (if_neg h1), by simp⟩
  have hi : impl_StartConfig.f a = some (l, b) := hs
  have eq := eqCircleS_ev l (by omega)
  have mk := markCircleS_ev l (by omega)
  have hd := heldCircleS_ev l.length (by omega)
  have j1 : Ev (fun k => laws_FnExactStartConfig.j1 k (mkC 1 l.length) (1 + 4 * (l.length : Int)) false) true := by
    obtain ⟨K, hK⟩ := Ev.bind (f := fun k t => if t < 0 then (some false) else (if t = (1 + 4 * (l.length : Int)) then (some true) else (some false))) hd (by
      simp only [if_neg (show ¬ (1 + 4 * (l.length : Int) < 0) by omega), if_true]
      exact Ev.now _)
    refine Ev.from (K + 1) (fun k hk => ?_)
    obtain ⟨k, rfl⟩ : ∃ m, k = m + 1 := ⟨k - 1, by omega⟩
    have := hK k (by omega)
    simpa [laws_FnExactStartConfig.j1] using this
  have j0 : Ev (fun k => laws_FnExactStartConfig.j0 k a l b l false) true := by
    obtain ⟨K, hK⟩ : Ev (fun k => ((laws_markCircleS.f k l 1).bind fun bt297 => ((laws_heldCircleS.f k bt297.2 1).bind fun t299 => (if t299 < 0 then (some false) else (if t299 = bt297.1 then ((impl_StartConfig.f a).bind fun bt300 => ((laws_eqCircleS.f k bt300.1 l).bind fun t304 => (if t304 = true then (laws_FnExactStartConfig.j1 k bt297.2 bt297.1 (bt300.2 != b)) else (laws_FnExactStartConfig.j1 k bt297.2 bt297.1 true)))) else (some false)))))) true := by
      refine Ev.bind mk (Ev.bind hd ?_)
      simp only [if_neg (show ¬ (1 + 4 * (l.length : Int) < 0) by omega), if_true, hi, Option.bind_some]
      refine Ev.bind eq ?_
      simp only [if_true, bne_self_eq_false]
      exact j1
    refine Ev.from (K + 1) (fun k hk => ?_)
    obtain ⟨k, rfl⟩ : ∃ m, k = m + 1 := ⟨k - 1, by omega⟩
    have := hK k (by omega)
    simpa only [laws_FnExactStartConfig.j0, Bool.false_eq_true, if_false] using this
  unfold laws_FnExactStartConfig.f
  simp only [hs, hi, Option.bind_some]
  refine Ev.bind eq ?_
  simp only [if_true, bne_self_eq_false]
  exact j0

end Go.Proofs.Ytjnpopipdnaaiaa.Pure
