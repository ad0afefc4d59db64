import Derived.Test.YtmjodkckffmnaaaP4
import Derived.Test.YtmjodkckffmnaaaCm
namespace Go.Proofs.Ytmjodkckffmnaaa.P
open Go.RowKit Go.Proofs.YtmjodkckffmnaaaW.PrintWords Go.Proofs.YtmjodkckffmnaaaW.PrintLast Go.Proofs.YtmjodkckffmnaaaW.PrintMore
/-! Divisors of whole numbers with signs. -/
theorem natAbs_tmod_ (a b : Int) : (Int.tmod a b).natAbs = a.natAbs % b.natAbs := Int.natAbs_tmod a b
theorem gcd_step (x y : Nat) : Nat.gcd y (x % y) = Nat.gcd x y := by rw [Nat.gcd_comm x y, Nat.gcd_rec y x, Nat.gcd_comm (x % y) y]
theorem foGcdZ_ev (n : Nat) : ∀ a b : Int, b.natAbs = n → a.natAbs ≤ 9223372036854775807 → b.natAbs ≤ 9223372036854775807 → Ev (fun k => spec_foGcd.f k a b) ((Nat.gcd a.natAbs b.natAbs : Nat) : Int) := by
  induction n using Nat.strongRecOn with
  | _ n ih =>
    intro a b hn ha hb
    by_cases h0 : b = 0
    · subst h0
      refine Ev.step (f := fun _ => some ((a.natAbs : Nat) : Int)) (fun k => ?_) (by rw [Int.natAbs_zero, Nat.gcd_zero_right]; exact Ev.now _)
      simp only [spec_foGcd.f]
      rw [if_pos trivial]
      unfold spec_l1Abs.f spec_l1Most.f
      rw [wrap_id (by omega) (by omega)]
      by_cases h : a > -a
      · rw [if_pos h]; simp only [Option.bind_some]; exact congrArg some (by omega)
      · rw [if_neg h]; simp only [Option.bind_some]; exact congrArg some (by omega)
    · have hm := natAbs_tmod_ a b
      have hlt : a.natAbs % b.natAbs < b.natAbs := Nat.mod_lt _ (by omega)
      have := ih (Int.tmod a b).natAbs (by omega) b (Int.tmod a b) rfl hb (by omega)
      refine Ev.step (f := fun k => (spec_foGcd.f k b (Int.tmod a b)).bind fun t => some t) (fun k => ?_) ?_
      · simp only [spec_foGcd.f]
        rw [if_neg h0]
      · rw [← gcd_step a.natAbs b.natAbs, ← hm]
        exact Ev.bind this (Ev.now _)
theorem divisorZ_ev (n : Nat) : ∀ a b : Int, b.natAbs = n → a.natAbs ≤ 9223372036854775807 → b.natAbs ≤ 9223372036854775807 → Ev (fun k => impl_divisor.f k a b) ((Nat.gcd a.natAbs b.natAbs : Nat) : Int) := by
  unfold impl_divisor.f
  induction n using Nat.strongRecOn with
  | _ n ih =>
    intro a b hn ha hb
    by_cases h0 : b = 0
    · subst h0
      refine Ev.step (f := fun _ => some ((a.natAbs : Nat) : Int)) (fun k => ?_) (by rw [Int.natAbs_zero, Nat.gcd_zero_right]; exact Ev.now _)
      simp only [impl_divisor.l0]
      rw [if_pos trivial, wrap_id (by omega) (by omega)]
      unfold mx
      by_cases h : a < -a
      · rw [if_pos h]; exact congrArg some (by omega)
      · rw [if_neg h]; exact congrArg some (by omega)
    · have hm := natAbs_tmod_ a b
      have hlt : a.natAbs % b.natAbs < b.natAbs := Nat.mod_lt _ (by omega)
      have := ih (Int.tmod a b).natAbs (by omega) b (Int.tmod a b) rfl hb (by omega)
      refine Ev.step (f := fun k => impl_divisor.l0 k b (Int.tmod a b)) (fun k => ?_) ?_
      · simp only [impl_divisor.l0]
        rw [if_neg h0]
      · rw [← gcd_step a.natAbs b.natAbs, ← hm]
        exact this

end Go.Proofs.Ytmjodkckffmnaaa.P
