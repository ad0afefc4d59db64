/- Written by a program of this session: for Go functions that a statement reaches, Lean functions with the same answers and the proofs that the calls come to them; conditions: none but the arguments' kinds. -/
import Derived.Test.YtmjgklpccdigfaaP0
namespace Go.Proofs.Ytmjgklpccdigfaa.P
open Go.RowKit Go.Proofs.YtmjgklpccdigfaaW.PrintWords Go.Proofs.YtmjgklpccdigfaaW.PrintLast Go.Proofs.YtmjgklpccdigfaaW.PrintMore
attribute [local go_sem] max2_int min2_int max_two min_two max_three min_three max_four min_four   -- for this text's walks alone
set_option linter.unusedVariables false
set_option linter.unusedSimpArgs false

/-! ### spec_riBefore: function 90 -/
def spec_riBefore.f (l0 : List Int) (l1 : List Int) : Option (Bool) := if 2 < (l0.length : Int) then (if 2 < (l1.length : Int) then (if (rd l0 2) < (rd l1 2) then (some true) else (if (rd l0 2) = (rd l1 2) then (if 0 < (l0.length : Int) then (if 0 < (l1.length : Int) then (some (decide ((rd l0 0) < (rd l1 0)))) else (none)) else (none)) else (some false))) else (none)) else (none)
set_option maxHeartbeats 8000000 in
set_option maxRecDepth 100000 in
theorem spec_riBefore.calls (A0 : Option Addr) (c0 : Nat) (l0 : List Int) (A1 : Option Addr) (c1 : Nat) (l1 : List Int) (r : Bool) (w : World) (hr0 : Kd.C (Kd.int .i64) w A0 l0.length l0) (hc0 : l0.length ≤ c0) (hr1 : Kd.C (Kd.int .i64) w A1 l1.length l1) (hc1 : l1.length ≤ c1) (h : spec_riBefore.f l0 l1 = some r) :
    Calls Try.prog 90 #[.slice A0 l0.length c0, .slice A1 l1.length c1] w fun e w' => e = .returned (.bool r) ∧ Drawn0 w w' := by
  have HR0 := Aside0.mk hr0
  have HC0 := Aside0.mk hc0
  clear hr0 hc0
  have HR1 := Aside0.mk hr1
  have HC1 := Aside0.mk hc1
  clear hr1 hc1
  have H : (if 2 < (l0.length : Int) then (if 2 < (l1.length : Int) then (if (rd l0 2) < (rd l1 2) then (some true) else (if (rd l0 2) = (rd l1 2) then (if 0 < (l0.length : Int) then (if 0 < (l1.length : Int) then (some (decide ((rd l0 0) < (rd l1 0)))) else (none)) else (none)) else (some false))) else (none)) else (none)) = some r := h
  clear h
  by_cases c3 : 2 < (l0.length : Int)
  · rw [if_pos c3] at H
    have c3b0 : decide (2 < (l0.length : Int)) = true := decide_eq_true c3
    have c3b1 : decide (2 < l0.length) = true := decide_eq_true (by omega)
    clear c3
    by_cases c4 : 2 < (l1.length : Int)
    · rw [if_pos c4] at H
      have c4b0 : decide (2 < (l1.length : Int)) = true := decide_eq_true c4
      have c4b1 : decide (2 < l1.length) = true := decide_eq_true (by omega)
      clear c4
      by_cases c5 : (rd l0 2) < (rd l1 2)
      · rw [if_pos c5] at H
        have c5b0 : decide ((rd l0 2) < (rd l1 2)) = true := decide_eq_true c5
        clear c5
        obtain rfl := Option.some.inj H
        have p604 : 0 ≤ (2 : Int) := (by omega)
        have q604 : 2 < (l0.length : Int) := of_decide_eq_true (by first | (with_reducible assumption) | assumption)
        obtain ⟨ad604, e604, hx604_0⟩ := Kd.at_int HR0.out 2 p604 q604
        cases e604
        (try simp only [show (2 : Int).toNat = 2 from rfl, Nat.reduceMul, Nat.reduceEqDiff, Go.Addr.add, ↓reduceIte] at hx604_0)
        have qi604 : (2 < l0.length) = True := eq_true (by omega)
        (try rw [show ((2 : Int)).toNat = 2 from rfl] at hx604_0)
        replace p604 := eq_true p604
        replace q604 := eq_true q604
        have p605 : 0 ≤ (2 : Int) := (by omega)
        have q605 : 2 < (l1.length : Int) := of_decide_eq_true (by first | (with_reducible assumption) | assumption)
        obtain ⟨ad605, e605, hx605_0⟩ := Kd.at_int HR1.out 2 p605 q605
        cases e605
        (try simp only [show (2 : Int).toNat = 2 from rfl, Nat.reduceMul, Nat.reduceEqDiff, Go.Addr.add, ↓reduceIte] at hx605_0)
        have qi605 : (2 < l1.length) = True := eq_true (by omega)
        (try rw [show ((2 : Int)).toNat = 2 from rfl] at hx605_0)
        replace p605 := eq_true p605
        replace q605 := eq_true q605
        go_enter Try.func90, Try.ntmps90
        go_wp2
        repeat (go_quiet (fail); try go_wp2)
        go_ret
        exact ⟨by first | rfl | (simp; done) | (simp [*]; done), by repeat (first | exact Drawn0.refl _ | apply Drawn0.step)⟩
      · rw [if_neg c5] at H
        have c5b0 : decide ((rd l0 2) < (rd l1 2)) = false := decide_eq_false c5
        clear c5
        by_cases c6 : (rd l0 2) = (rd l1 2)
        · rw [if_pos c6] at H
          have c6b0 : ((rd l0 2) == (rd l1 2)) = true := beq_iff_eq.mpr c6
          have c6b1 : ((rd l0 2) != (rd l1 2)) = false := bne_eq_false_iff_eq.mpr c6
          clear c6
          by_cases c7 : 0 < (l0.length : Int)
          · rw [if_pos c7] at H
            have c7b0 : decide (0 < (l0.length : Int)) = true := decide_eq_true c7
            have c7b1 : decide (0 < l0.length) = true := decide_eq_true (by omega)
            clear c7
            by_cases c8 : 0 < (l1.length : Int)
            · rw [if_pos c8] at H
              have c8b0 : decide (0 < (l1.length : Int)) = true := decide_eq_true c8
              have c8b1 : decide (0 < l1.length) = true := decide_eq_true (by omega)
              clear c8
              obtain rfl := Option.some.inj H
              have p604 : 0 ≤ (2 : Int) := (by omega)
              have q604 : 2 < (l0.length : Int) := of_decide_eq_true (by first | (with_reducible assumption) | assumption)
              obtain ⟨ad604, e604, hx604_0⟩ := Kd.at_int HR0.out 2 p604 q604
              cases e604
              (try simp only [show (2 : Int).toNat = 2 from rfl, Nat.reduceMul, Nat.reduceEqDiff, Go.Addr.add, ↓reduceIte] at hx604_0)
              have qi604 : (2 < l0.length) = True := eq_true (by omega)
              (try rw [show ((2 : Int)).toNat = 2 from rfl] at hx604_0)
              replace p604 := eq_true p604
              replace q604 := eq_true q604
              have p605 : 0 ≤ (2 : Int) := (by omega)
              have q605 : 2 < (l1.length : Int) := of_decide_eq_true (by first | (with_reducible assumption) | assumption)
              obtain ⟨ad605, e605, hx605_0⟩ := Kd.at_int HR1.out 2 p605 q605
              cases e605
              (try simp only [show (2 : Int).toNat = 2 from rfl, Nat.reduceMul, Nat.reduceEqDiff, Go.Addr.add, ↓reduceIte] at hx605_0)
              have qi605 : (2 < l1.length) = True := eq_true (by omega)
              (try rw [show ((2 : Int)).toNat = 2 from rfl] at hx605_0)
              replace p605 := eq_true p605
              replace q605 := eq_true q605
              have p606 : 0 ≤ (2 : Int) := (by omega)
              have q606 : 2 < (l0.length : Int) := of_decide_eq_true (by first | (with_reducible assumption) | assumption)
              obtain ⟨ad606, e606, hx606_0⟩ := Kd.at_int HR0.out 2 p606 q606
              obtain rfl : ad604 = ad606 := (by injection e606)
              (try simp only [show (2 : Int).toNat = 2 from rfl, Nat.reduceMul, Nat.reduceEqDiff, Go.Addr.add, ↓reduceIte] at hx606_0)
              have qi606 : (2 < l0.length) = True := eq_true (by omega)
              (try rw [show ((2 : Int)).toNat = 2 from rfl] at hx606_0)
              replace p606 := eq_true p606
              replace q606 := eq_true q606
              have p607 : 0 ≤ (2 : Int) := (by omega)
              have q607 : 2 < (l1.length : Int) := of_decide_eq_true (by first | (with_reducible assumption) | assumption)
              obtain ⟨ad607, e607, hx607_0⟩ := Kd.at_int HR1.out 2 p607 q607
              obtain rfl : ad605 = ad607 := (by injection e607)
              (try simp only [show (2 : Int).toNat = 2 from rfl, Nat.reduceMul, Nat.reduceEqDiff, Go.Addr.add, ↓reduceIte] at hx607_0)
              have qi607 : (2 < l1.length) = True := eq_true (by omega)
              (try rw [show ((2 : Int)).toNat = 2 from rfl] at hx607_0)
              replace p607 := eq_true p607
              replace q607 := eq_true q607
              have p608 : 0 ≤ (0 : Int) := (by omega)
              have q608 : 0 < (l0.length : Int) := of_decide_eq_true (by first | (with_reducible assumption) | assumption)
              obtain ⟨ad608, e608, hx608_0⟩ := Kd.at_int HR0.out 0 p608 q608
              obtain rfl : ad604 = ad608 := (by injection e608)
              have qi608 : (0 < l0.length) = True := eq_true (by omega)
              (try rw [show ((0 : Int)).toNat = 0 from rfl] at hx608_0)
              (try rw [Addr.add_zero'] at hx608_0)
              replace p608 := eq_true p608
              replace q608 := eq_true q608
              have p609 : 0 ≤ (0 : Int) := (by omega)
              have q609 : 0 < (l1.length : Int) := of_decide_eq_true (by first | (with_reducible assumption) | assumption)
              obtain ⟨ad609, e609, hx609_0⟩ := Kd.at_int HR1.out 0 p609 q609
              obtain rfl : ad605 = ad609 := (by injection e609)
              have qi609 : (0 < l1.length) = True := eq_true (by omega)
              (try rw [show ((0 : Int)).toNat = 0 from rfl] at hx609_0)
              (try rw [Addr.add_zero'] at hx609_0)
              replace p609 := eq_true p609
              replace q609 := eq_true q609
              go_enter Try.func90, Try.ntmps90
              go_wp2
              repeat (go_quiet (fail); try go_wp2)
              go_ret
              exact ⟨by first | rfl | (simp; done) | (simp [*]; done), by repeat (first | exact Drawn0.refl _ | apply Drawn0.step)⟩
            · rw [if_neg c8] at H
              exact absurd H (by simp)
          · rw [if_neg c7] at H
            exact absurd H (by simp)
        · rw [if_neg c6] at H
          have c6b0 : ((rd l0 2) == (rd l1 2)) = false := beq_eq_false_iff_ne.mpr c6
          have c6b1 : ((rd l0 2) != (rd l1 2)) = true := bne_iff_ne.mpr c6
          obtain rfl := Option.some.inj H
          have p604 : 0 ≤ (2 : Int) := (by omega)
          have q604 : 2 < (l0.length : Int) := of_decide_eq_true (by first | (with_reducible assumption) | assumption)
          obtain ⟨ad604, e604, hx604_0⟩ := Kd.at_int HR0.out 2 p604 q604
          cases e604
          (try simp only [show (2 : Int).toNat = 2 from rfl, Nat.reduceMul, Nat.reduceEqDiff, Go.Addr.add, ↓reduceIte] at hx604_0)
          have qi604 : (2 < l0.length) = True := eq_true (by omega)
          (try rw [show ((2 : Int)).toNat = 2 from rfl] at hx604_0)
          replace p604 := eq_true p604
          replace q604 := eq_true q604
          have p605 : 0 ≤ (2 : Int) := (by omega)
          have q605 : 2 < (l1.length : Int) := of_decide_eq_true (by first | (with_reducible assumption) | assumption)
          obtain ⟨ad605, e605, hx605_0⟩ := Kd.at_int HR1.out 2 p605 q605
          cases e605
          (try simp only [show (2 : Int).toNat = 2 from rfl, Nat.reduceMul, Nat.reduceEqDiff, Go.Addr.add, ↓reduceIte] at hx605_0)
          have qi605 : (2 < l1.length) = True := eq_true (by omega)
          (try rw [show ((2 : Int)).toNat = 2 from rfl] at hx605_0)
          replace p605 := eq_true p605
          replace q605 := eq_true q605
          have p606 : 0 ≤ (2 : Int) := (by omega)
          have q606 : 2 < (l0.length : Int) := of_decide_eq_true (by first | (with_reducible assumption) | assumption)
          obtain ⟨ad606, e606, hx606_0⟩ := Kd.at_int HR0.out 2 p606 q606
          obtain rfl : ad604 = ad606 := (by injection e606)
          (try simp only [show (2 : Int).toNat = 2 from rfl, Nat.reduceMul, Nat.reduceEqDiff, Go.Addr.add, ↓reduceIte] at hx606_0)
          have qi606 : (2 < l0.length) = True := eq_true (by omega)
          (try rw [show ((2 : Int)).toNat = 2 from rfl] at hx606_0)
          replace p606 := eq_true p606
          replace q606 := eq_true q606
          have p607 : 0 ≤ (2 : Int) := (by omega)
          have q607 : 2 < (l1.length : Int) := of_decide_eq_true (by first | (with_reducible assumption) | assumption)
          obtain ⟨ad607, e607, hx607_0⟩ := Kd.at_int HR1.out 2 p607 q607
          obtain rfl : ad605 = ad607 := (by injection e607)
          (try simp only [show (2 : Int).toNat = 2 from rfl, Nat.reduceMul, Nat.reduceEqDiff, Go.Addr.add, ↓reduceIte] at hx607_0)
          have qi607 : (2 < l1.length) = True := eq_true (by omega)
          (try rw [show ((2 : Int)).toNat = 2 from rfl] at hx607_0)
          replace p607 := eq_true p607
          replace q607 := eq_true q607
          go_enter Try.func90, Try.ntmps90
          go_wp2
          repeat (go_quiet (fail); try go_wp2)
          go_ret
          exact ⟨by first | rfl | (simp; done) | (simp [*]; done), by repeat (first | exact Drawn0.refl _ | apply Drawn0.step)⟩
    · rw [if_neg c4] at H
      exact absurd H (by simp)
  · rw [if_neg c3] at H
    exact absurd H (by simp)

end Go.Proofs.Ytmjgklpccdigfaa.P
