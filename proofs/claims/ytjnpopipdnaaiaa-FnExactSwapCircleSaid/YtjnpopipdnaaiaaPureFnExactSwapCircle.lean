/- For every input the statement FnExactSwapCircle holds of what the program and the reference compute, told as plain Lean functions; there is no further condition. -/
import Derived.Test.YtjnpopipdnaaiaaP0
import Derived.Test.YtjnpopipdnaaiaaP2
import Derived.Test.YtjnpopipdnaaiaaP33
import Derived.Test.YtjnpopipdnaaiaaP35
import Derived.Test.YtjnpopipdnaaiaaP36
import Derived.Test.YtjnpopipdnaaiaaP37
import Derived.Test.YtjnpopipdnaaiaaLeFnExactSwapCircle
namespace Go.Proofs.Ytjnpopipdnaaiaa.Pure
open Go.RowKit Go.Proofs.Ytjnpopipdnaaiaa.P Go.Proofs.YtjnpopipdnaaiaaW.PrintWords Go.Proofs.YtjnpopipdnaaiaaW.PrintLast Go.Proofs.YtjnpopipdnaaiaaW.PrintMore

theorem swapS_ev (l : List S25) (i : Int) : Ev (fun k => spec_SwapCircle.f k l i) (folR l [i]) := by
  have hu := ciConfig_ev l
  have js : Ev (fun k => spec_SwapCircle.j0 k l i true) (([] : List S25), false) := Ev.step (fun _ => spec_SwapCircle.j0.eq_2 ..) (by simp only [if_true]; exact Ev.now _)
  unfold spec_SwapCircle.f folR
  simp only [l1In_f, Option.bind_some]
  refine Ev.bind hu ?_
  cases hq : cfgB l with
  | false => simp only [Bool.false_eq_true, if_false, false_and]; exact js
  | true =>
    simp only [if_true, true_and, List.length_cons, List.length_nil, List.all_cons, List.all_nil, Bool.and_true, Nat.zero_add, show (1 : Nat) ≤ 40 from by decide]
    cases hi : inB 0 3 i with
    | false => simp only [Bool.not_false, Bool.false_eq_true, if_false]; exact js
    | true =>
      obtain ⟨h0, h3⟩ := inB_iff.1 hi
      obtain ⟨j, rfl⟩ : ∃ j : Nat, i = j := ⟨i.toNat, by omega⟩
      have hj : j < 4 := by omega
      have h4 := cfg_len hq
      have hs := ciSwap_ev l h4 (cfg_bnd hq) hj
      have hg := ciGood_ev (nc l j).f0 (nc l j).f1 (nc l j).f2 (nc l j).f3
      obtain ⟨c1, c2⟩ := cfg_swc hq hj
      rw [show (⟨(nc l j).f0, (nc l j).f1, (nc l j).f2, (nc l j).f3⟩ : S25) = nc l j from rfl, c1] at hg
      simp only [Bool.not_true, if_true, runC, Int.toNat_natCast]
      refine Ev.step (fun _ => spec_SwapCircle.j0.eq_2 ..) ?_
      simp only [Bool.false_eq_true, if_false]
      refine Ev.bind hs ?_
      simp only [swc_length, h4, if_pos (show 0 ≤ (j : Int) by omega), if_pos (show (j : Int) < ((4 : Nat) : Int) by omega), swc_get (show j < l.length by omega)]
      refine Ev.bind hg ?_
      by_cases hqq : inC (nc l j) = true
      · simp only [if_pos hqq]
        exact Ev.now _
      · simp only [if_neg hqq]
        exact Ev.now _
theorem swapI_ev (l : List S25) (i : Int) : Ev (fun k => impl_SwapCircle.f k l i) (folR l [i]) := by
  unfold impl_SwapCircle.f impl_isIndex.f
  simp only [within_f, Option.bind_some]
  cases hi : inB 0 3 i with
  | true =>
    simp only [if_true]
    exact Ev.bind (folI_ev l [i]) (Ev.now _)
  | false =>
    simp only [Bool.false_eq_true, if_false]
    have e : folR l [i] = ([], false) := by
      unfold folR
      rw [if_neg (by simp [hi])]
    rw [e]
    exact Ev.now _
theorem FnExactSwapCircle (l : List S23) (i : Int) (_ : l.length ≤ maxLen) (h32 : l.length * 32 ≤ 140737488351232) (_ : ∀ x ∈ l, (Lit.int .i64 x.f0).wf = true ∧ (Lit.int .i64 x.f1).wf = true ∧ (Lit.int .i64 x.f2).wf = true ∧ (Lit.int .i64 x.f3).wf = true) (_ : (Lit.int .i64 i).wf = true) : ∃ k, laws_FnExactSwapCircle.f k l i = some true := by
  have hml : l.length ≤ 8796093022208 := by omega
  suffices h : Ev (fun k => laws_FnExactSwapCircle.f k l i) true by
    obtain ⟨K, h⟩ := h
    exact ⟨K, h K (Nat.le_refl _)⟩
  unfold laws_FnExactSwapCircle.f
  rw [szCircleS_f l hml]
  simp only [Option.bind_some]
  by_cases hb : l.length ≤ 1048576
  · simp only [if_pos hb, if_neg (show ¬ (1048576 - (l.length : Int) < 0) by omega)]
    have hto := toCircleS_ev l hml
    have hel := eqCircleS_ev (l.map toC) (by simp; omega)
    have hmk := markCircleS_ev (l.map toC) (by simp; omega)
    have hp := swapS_ev (l.map toC) i
    have hq := swapI_ev (l.map toC) i
    have hpl := folR_len (l.map toC) [i]
    generalize folR (l.map toC) [i] = pb at *
    obtain ⟨p, b⟩ := pb
    simp only at hpl
    have hep := eqCircleS_ev p (by omega)
    have hmp := markCircleS_ev p (by omega)
    have hhp := heldCircleS_ev p.length (by omega)
    have n1 : ¬ (1 + 4 * ((l.map toC).length : Int) < 0) := by omega
    have n2 : ¬ (1 + 4 * (p.length : Int) < 0) := by omega
    repeat (first
      | with_reducible exact Ev.now _
      | with_reducible refine Ev.bind hto ?_
      | with_reducible refine Ev.bind hp ?_
      | with_reducible refine Ev.bind hq ?_
      | with_reducible refine Ev.bind hel ?_
      | with_reducible refine Ev.bind hmk ?_
      | with_reducible refine Ev.bind hep ?_
      | with_reducible refine Ev.bind hmp ?_
      | with_reducible refine Ev.bind hhp ?_
      | with_reducible refine Ev.step (fun _ => laws_FnExactSwapCircle.j0.eq_2 ..) ?_
      | with_reducible refine Ev.step (fun _ => laws_FnExactSwapCircle.j1.eq_2 ..) ?_
      | with_reducible refine Ev.step (fun _ => laws_FnExactSwapCircle.j2.eq_2 ..) ?_
      | simp only [bne_self_eq_false, Bool.false_eq_true, if_true, if_false, eq_self, n1, n2])
  · simp only [if_neg hb]
    exact Ev.now _

end Go.Proofs.Ytjnpopipdnaaiaa.Pure
