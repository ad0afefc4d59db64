/- Written by a program of this session: for Go functions that a statement reaches, Lean functions with the same answers and the proofs that the calls come to them; conditions: none but the arguments' kinds. -/
import Derived.Test.YtgigkjcfnngdmaaP0
namespace Go.Proofs.Ytgigkjcfnngdmaa.P
open Go.RowKit Go.Proofs.YtgigkjcfnngdmaaW.PrintWords Go.Proofs.YtgigkjcfnngdmaaW.PrintLast Go.Proofs.YtgigkjcfnngdmaaW.PrintMore
attribute [local go_sem] max2_int min2_int max_two min_two max_three min_three max_four min_four   -- for this text's walks alone
set_option linter.unusedVariables false
set_option linter.unusedSimpArgs false

/-! ### spec_l1In: function 57 -/
def spec_l1In.f (a0 : Int) (a1 : Int) (a2 : Int) : Option (Bool) := if a0 ≥ a1 then (some (decide (a0 ≤ a2))) else (some false)
set_option maxHeartbeats 8000000 in
set_option maxRecDepth 100000 in
theorem spec_l1In.calls (a0 : Int) (a1 : Int) (a2 : Int) (r : Bool) (w : World) (h : spec_l1In.f a0 a1 a2 = some r) :
    Calls Try.prog 57 #[.int .i64 a0, .int .i64 a1, .int .i64 a2] w fun e w' => e = .returned (.bool r) ∧ Drawn0 w w' := by
  have H : (if a0 ≥ a1 then (some (decide (a0 ≤ a2))) else (some false)) = some r := h
  clear h
  by_cases c4 : a0 ≥ a1
  · rw [if_pos c4] at H
    have c4b0 : decide (a1 ≤ a0) = true := decide_eq_true c4
    clear c4
    obtain rfl := Option.some.inj H
    go_enter Try.func57, Try.ntmps57
    go_wp2
    go_ret
    exact ⟨by first | rfl | (simp; done) | (simp [*]; done), by repeat (first | exact Drawn0.refl _ | apply Drawn0.step)⟩
  · rw [if_neg c4] at H
    have c4b0 : decide (a1 ≤ a0) = false := decide_eq_false c4
    clear c4
    obtain rfl := Option.some.inj H
    go_enter Try.func57, Try.ntmps57
    go_wp2
    go_ret
    exact ⟨by first | rfl | (simp; done) | (simp [*]; done), by repeat (first | exact Drawn0.refl _ | apply Drawn0.step)⟩

/-! ### spec_juQuotient: function 51 -/
def spec_juQuotient.f (a0 : Int) (a1 : Int) : Option (Int × Bool) := (spec_l1In.f a0 0 1000000).bind fun t101 => (if t101 = true then ((spec_l1In.f a1 0 1000000).bind fun t102 => (if t102 = true then (if (wrap64 (a0 + a1)) = 0 then (some (0, false)) else (if (wrap64 ((wrap64 (a0 * a1)) + 1)) = 0 then (none) else (if (Int.tmod (wrap64 ((wrap64 (a0 * a0)) + (wrap64 (a1 * a1)))) (wrap64 ((wrap64 (a0 * a1)) + 1))) = 0 then (some (wrap64 (Int.tdiv (wrap64 ((wrap64 (a0 * a0)) + (wrap64 (a1 * a1)))) (wrap64 ((wrap64 (a0 * a1)) + 1))), true)) else (some (0, false))))) else (some (0, false)))) else (some (0, false)))
set_option maxHeartbeats 8000000 in
set_option maxRecDepth 100000 in
theorem spec_juQuotient.calls (a0 : Int) (a1 : Int) (r1 : Int) (r2 : Bool) (w : World) (h : spec_juQuotient.f a0 a1 = some (r1, r2)) :
    Calls Try.prog 51 #[.int .i64 a0, .int .i64 a1] w fun e w' => e = .returned (.tuple #[.int .i64 r1, .bool r2]) ∧ Drawn0 w w' := by
  have H : ((spec_l1In.f a0 0 1000000).bind fun t101 => (if t101 = true then ((spec_l1In.f a1 0 1000000).bind fun t102 => (if t102 = true then (if (wrap64 (a0 + a1)) = 0 then (some (0, false)) else (if (wrap64 ((wrap64 (a0 * a1)) + 1)) = 0 then (none) else (if (Int.tmod (wrap64 ((wrap64 (a0 * a0)) + (wrap64 (a1 * a1)))) (wrap64 ((wrap64 (a0 * a1)) + 1))) = 0 then (some (wrap64 (Int.tdiv (wrap64 ((wrap64 (a0 * a0)) + (wrap64 (a1 * a1)))) (wrap64 ((wrap64 (a0 * a1)) + 1))), true)) else (some (0, false))))) else (some (0, false)))) else (some (0, false)))) = some (r1, r2) := h
  clear h
  replace H := Option.bind_eq_some_iff.mp H
  obtain ⟨t101, A30, H⟩ := H
  replace H : (if t101 = true then ((spec_l1In.f a1 0 1000000).bind fun t102 => (if t102 = true then (if (wrap64 (a0 + a1)) = 0 then (some (0, false)) else (if (wrap64 ((wrap64 (a0 * a1)) + 1)) = 0 then (none) else (if (Int.tmod (wrap64 ((wrap64 (a0 * a0)) + (wrap64 (a1 * a1)))) (wrap64 ((wrap64 (a0 * a1)) + 1))) = 0 then (some (wrap64 (Int.tdiv (wrap64 ((wrap64 (a0 * a0)) + (wrap64 (a1 * a1)))) (wrap64 ((wrap64 (a0 * a1)) + 1))), true)) else (some (0, false))))) else (some (0, false)))) else (some (0, false))) = some (r1, r2) := H
  have A3 := Aside0.mk A30
  clear A30
  by_cases c4 : t101 = true
  · subst c4
    have H1 : ((spec_l1In.f a1 0 1000000).bind fun t102 => (if t102 = true then (if (wrap64 (a0 + a1)) = 0 then (some (0, false)) else (if (wrap64 ((wrap64 (a0 * a1)) + 1)) = 0 then (none) else (if (Int.tmod (wrap64 ((wrap64 (a0 * a0)) + (wrap64 (a1 * a1)))) (wrap64 ((wrap64 (a0 * a1)) + 1))) = 0 then (some (wrap64 (Int.tdiv (wrap64 ((wrap64 (a0 * a0)) + (wrap64 (a1 * a1)))) (wrap64 ((wrap64 (a0 * a1)) + 1))), true)) else (some (0, false))))) else (some (0, false)))) = some (r1, r2) := by rw [if_pos rfl] at H; exact H
    clear H
    have H := H1
    clear H1
    replace H := Option.bind_eq_some_iff.mp H
    obtain ⟨t102, A50, H⟩ := H
    replace H : (if t102 = true then (if (wrap64 (a0 + a1)) = 0 then (some (0, false)) else (if (wrap64 ((wrap64 (a0 * a1)) + 1)) = 0 then (none) else (if (Int.tmod (wrap64 ((wrap64 (a0 * a0)) + (wrap64 (a1 * a1)))) (wrap64 ((wrap64 (a0 * a1)) + 1))) = 0 then (some (wrap64 (Int.tdiv (wrap64 ((wrap64 (a0 * a0)) + (wrap64 (a1 * a1)))) (wrap64 ((wrap64 (a0 * a1)) + 1))), true)) else (some (0, false))))) else (some (0, false))) = some (r1, r2) := H
    have A5 := Aside0.mk A50
    clear A50
    by_cases c6 : t102 = true
    · subst c6
      have H1 : (if (wrap64 (a0 + a1)) = 0 then (some (0, false)) else (if (wrap64 ((wrap64 (a0 * a1)) + 1)) = 0 then (none) else (if (Int.tmod (wrap64 ((wrap64 (a0 * a0)) + (wrap64 (a1 * a1)))) (wrap64 ((wrap64 (a0 * a1)) + 1))) = 0 then (some (wrap64 (Int.tdiv (wrap64 ((wrap64 (a0 * a0)) + (wrap64 (a1 * a1)))) (wrap64 ((wrap64 (a0 * a1)) + 1))), true)) else (some (0, false))))) = some (r1, r2) := by rw [if_pos rfl] at H; exact H
      clear H
      have H := H1
      clear H1
      by_cases c7 : (wrap64 (a0 + a1)) = 0
      · rw [if_pos c7] at H
        have c7b0 : ((wrap64 (a0 + a1)) == 0) = true := beq_iff_eq.mpr c7
        have c7b1 : ((wrap64 (a0 + a1)) != 0) = false := bne_eq_false_iff_eq.mpr c7
        clear c7
        simp only [Option.some.injEq, Prod.mk.injEq] at H
        obtain ⟨rfl, rfl⟩ := H
        go_enter Try.func51, Try.ntmps51
        go_wp2_with (first | ((with_reducible refine gate_callee (f := 57) rfl ?_); refine goesL_ (some 7) rfl rfl Try.func57 (by kernel_rfl) rfl #[.int .i64 a0, .int .i64 0, .int .i64 1000000] rfl (by (try simp only [List.map_toArray, List.map_cons, List.map_nil]); first | done | rfl | (simp only [List.length_drop, List.length_take]; rfl)) ?_; (with_reducible refine (spec_l1In.calls a0 0 1000000 true _ A3.out).mono ?_); rintro e w' ⟨rfl, ⟨nd, rfl⟩⟩; refine ⟨_, rfl, ?_⟩) | (go_at_call 57; (with_reducible refine (spec_l1In.calls a1 0 1000000 true _ A5.out).mono ?_); rintro e w' ⟨rfl, ⟨nd, rfl⟩⟩))
        go_ret2
        exact ⟨by first | rfl | (simp; done) | (simp [*]; done), by repeat (first | exact Drawn0.refl _ | apply Drawn0.step)⟩
      · rw [if_neg c7] at H
        have c7b0 : ((wrap64 (a0 + a1)) == 0) = false := beq_eq_false_iff_ne.mpr c7
        have c7b1 : ((wrap64 (a0 + a1)) != 0) = true := bne_iff_ne.mpr c7
        by_cases c8 : (wrap64 ((wrap64 (a0 * a1)) + 1)) = 0
        · rw [if_pos c8] at H
          exact absurd H (by simp)
        · rw [if_neg c8] at H
          have c8b0 : ((wrap64 ((wrap64 (a0 * a1)) + 1)) == 0) = false := beq_eq_false_iff_ne.mpr c8
          have c8b1 : ((wrap64 ((wrap64 (a0 * a1)) + 1)) != 0) = true := bne_iff_ne.mpr c8
          by_cases c9 : (Int.tmod (wrap64 ((wrap64 (a0 * a0)) + (wrap64 (a1 * a1)))) (wrap64 ((wrap64 (a0 * a1)) + 1))) = 0
          · rw [if_pos c9] at H
            have c9b0 : ((Int.tmod (wrap64 ((wrap64 (a0 * a0)) + (wrap64 (a1 * a1)))) (wrap64 ((wrap64 (a0 * a1)) + 1))) == 0) = true := beq_iff_eq.mpr c9
            have c9b1 : ((Int.tmod (wrap64 ((wrap64 (a0 * a0)) + (wrap64 (a1 * a1)))) (wrap64 ((wrap64 (a0 * a1)) + 1))) != 0) = false := bne_eq_false_iff_eq.mpr c9
            clear c9
            simp only [Option.some.injEq, Prod.mk.injEq] at H
            obtain ⟨rfl, rfl⟩ := H
            go_enter Try.func51, Try.ntmps51
            go_wp2_with (first | ((with_reducible refine gate_callee (f := 57) rfl ?_); refine goesL_ (some 7) rfl rfl Try.func57 (by kernel_rfl) rfl #[.int .i64 a0, .int .i64 0, .int .i64 1000000] rfl (by (try simp only [List.map_toArray, List.map_cons, List.map_nil]); first | done | rfl | (simp only [List.length_drop, List.length_take]; rfl)) ?_; (with_reducible refine (spec_l1In.calls a0 0 1000000 true _ A3.out).mono ?_); rintro e w' ⟨rfl, ⟨nd, rfl⟩⟩; refine ⟨_, rfl, ?_⟩) | (go_at_call 57; (with_reducible refine (spec_l1In.calls a1 0 1000000 true _ A5.out).mono ?_); rintro e w' ⟨rfl, ⟨nd, rfl⟩⟩))
            go_ret2
            exact ⟨by first | rfl | (simp; done) | (simp [*]; done), by repeat (first | exact Drawn0.refl _ | apply Drawn0.step)⟩
          · rw [if_neg c9] at H
            have c9b0 : ((Int.tmod (wrap64 ((wrap64 (a0 * a0)) + (wrap64 (a1 * a1)))) (wrap64 ((wrap64 (a0 * a1)) + 1))) == 0) = false := beq_eq_false_iff_ne.mpr c9
            have c9b1 : ((Int.tmod (wrap64 ((wrap64 (a0 * a0)) + (wrap64 (a1 * a1)))) (wrap64 ((wrap64 (a0 * a1)) + 1))) != 0) = true := bne_iff_ne.mpr c9
            simp only [Option.some.injEq, Prod.mk.injEq] at H
            obtain ⟨rfl, rfl⟩ := H
            go_enter Try.func51, Try.ntmps51
            go_wp2_with (first | ((with_reducible refine gate_callee (f := 57) rfl ?_); refine goesL_ (some 7) rfl rfl Try.func57 (by kernel_rfl) rfl #[.int .i64 a0, .int .i64 0, .int .i64 1000000] rfl (by (try simp only [List.map_toArray, List.map_cons, List.map_nil]); first | done | rfl | (simp only [List.length_drop, List.length_take]; rfl)) ?_; (with_reducible refine (spec_l1In.calls a0 0 1000000 true _ A3.out).mono ?_); rintro e w' ⟨rfl, ⟨nd, rfl⟩⟩; refine ⟨_, rfl, ?_⟩) | (go_at_call 57; (with_reducible refine (spec_l1In.calls a1 0 1000000 true _ A5.out).mono ?_); rintro e w' ⟨rfl, ⟨nd, rfl⟩⟩))
            go_ret2
            exact ⟨by first | rfl | (simp; done) | (simp [*]; done), by repeat (first | exact Drawn0.refl _ | apply Drawn0.step)⟩
    · replace c6 := Bool.eq_false_iff.mpr c6
      subst c6
      have H1 : (some (0, false)) = some (r1, r2) := by rw [if_neg (show ¬ (false = true) by decide)] at H; exact H
      clear H
      have H := H1
      clear H1
      simp only [Option.some.injEq, Prod.mk.injEq] at H
      obtain ⟨rfl, rfl⟩ := H
      go_enter Try.func51, Try.ntmps51
      go_wp2_with (first | ((with_reducible refine gate_callee (f := 57) rfl ?_); refine goesL_ (some 7) rfl rfl Try.func57 (by kernel_rfl) rfl #[.int .i64 a0, .int .i64 0, .int .i64 1000000] rfl (by (try simp only [List.map_toArray, List.map_cons, List.map_nil]); first | done | rfl | (simp only [List.length_drop, List.length_take]; rfl)) ?_; (with_reducible refine (spec_l1In.calls a0 0 1000000 true _ A3.out).mono ?_); rintro e w' ⟨rfl, ⟨nd, rfl⟩⟩; refine ⟨_, rfl, ?_⟩) | (go_at_call 57; (with_reducible refine (spec_l1In.calls a1 0 1000000 false _ A5.out).mono ?_); rintro e w' ⟨rfl, ⟨nd, rfl⟩⟩))
      go_ret2
      exact ⟨by first | rfl | (simp; done) | (simp [*]; done), by repeat (first | exact Drawn0.refl _ | apply Drawn0.step)⟩
  · replace c4 := Bool.eq_false_iff.mpr c4
    subst c4
    have H1 : (some (0, false)) = some (r1, r2) := by rw [if_neg (show ¬ (false = true) by decide)] at H; exact H
    clear H
    have H := H1
    clear H1
    simp only [Option.some.injEq, Prod.mk.injEq] at H
    obtain ⟨rfl, rfl⟩ := H
    go_enter Try.func51, Try.ntmps51
    go_wp2_with (first | ((with_reducible refine gate_callee (f := 57) rfl ?_); refine goesL_ (some 7) rfl rfl Try.func57 (by kernel_rfl) rfl #[.int .i64 a0, .int .i64 0, .int .i64 1000000] rfl (by (try simp only [List.map_toArray, List.map_cons, List.map_nil]); first | done | rfl | (simp only [List.length_drop, List.length_take]; rfl)) ?_; (with_reducible refine (spec_l1In.calls a0 0 1000000 false _ A3.out).mono ?_); rintro e w' ⟨rfl, ⟨nd, rfl⟩⟩; refine ⟨_, rfl, ?_⟩))
    go_ret2
    exact ⟨by first | rfl | (simp; done) | (simp [*]; done), by repeat (first | exact Drawn0.refl _ | apply Drawn0.step)⟩

/-! ### spec_SquareQuotient: function 16 -/
def spec_SquareQuotient.f (a0 : Int) (a1 : Int) : Option (Int × Bool) := (spec_juQuotient.f a0 a1).bind fun bt103 => (some (bt103.1, bt103.2))
set_option maxHeartbeats 8000000 in
set_option maxRecDepth 100000 in
theorem spec_SquareQuotient.calls (a0 : Int) (a1 : Int) (r1 : Int) (r2 : Bool) (w : World) (h : spec_SquareQuotient.f a0 a1 = some (r1, r2)) :
    Calls Try.prog 16 #[.int .i64 a0, .int .i64 a1] w fun e w' => e = .returned (.tuple #[.int .i64 r1, .bool r2]) ∧ Drawn0 w w' := by
  have H : ((spec_juQuotient.f a0 a1).bind fun bt103 => (some (bt103.1, bt103.2))) = some (r1, r2) := h
  clear h
  replace H := Option.bind_eq_some_iff.mp H
  obtain ⟨⟨t103, t104⟩, A30, H⟩ := H
  replace H : (some (t103, t104)) = some (r1, r2) := H
  have A3 := Aside0.mk A30
  clear A30
  simp only [Option.some.injEq, Prod.mk.injEq] at H
  obtain ⟨rfl, rfl⟩ := H
  go_enter Try.func16, Try.ntmps16
  go_wp2_with (first | ((with_reducible refine gate_callee (f := 51) rfl ?_); refine goesL_ (some 8) rfl rfl Try.func51 (by kernel_rfl) rfl #[.int .i64 a0, .int .i64 a1] rfl (by (try simp only [List.map_toArray, List.map_cons, List.map_nil]); first | done | rfl | (simp only [List.length_drop, List.length_take]; rfl)) ?_; (with_reducible refine (spec_juQuotient.calls a0 a1 t103 t104 _ A3.out).mono ?_); rintro e w' ⟨rfl, ⟨nd, rfl⟩⟩; refine ⟨_, rfl, ?_⟩))
  go_ret2
  exact ⟨by first | rfl | (simp; done) | (simp [*]; done), by repeat (first | exact Drawn0.refl _ | apply Drawn0.step)⟩

/-! ### impl_within: function 52 -/
def impl_within.f (a0 : Int) (a1 : Int) (a2 : Int) : Option (Bool) := if a0 ≥ a1 then (some (decide (a0 ≤ a2))) else (some false)
set_option maxHeartbeats 8000000 in
set_option maxRecDepth 100000 in
theorem impl_within.calls (a0 : Int) (a1 : Int) (a2 : Int) (r : Bool) (w : World) (h : impl_within.f a0 a1 a2 = some r) :
    Calls Try.prog 52 #[.int .i64 a0, .int .i64 a1, .int .i64 a2] w fun e w' => e = .returned (.bool r) ∧ Drawn0 w w' := by
  have H : (if a0 ≥ a1 then (some (decide (a0 ≤ a2))) else (some false)) = some r := h
  clear h
  by_cases c4 : a0 ≥ a1
  · rw [if_pos c4] at H
    have c4b0 : decide (a1 ≤ a0) = true := decide_eq_true c4
    clear c4
    obtain rfl := Option.some.inj H
    go_enter Try.func52, Try.ntmps52
    go_wp2
    go_ret
    exact ⟨by first | rfl | (simp; done) | (simp [*]; done), by repeat (first | exact Drawn0.refl _ | apply Drawn0.step)⟩
  · rw [if_neg c4] at H
    have c4b0 : decide (a1 ≤ a0) = false := decide_eq_false c4
    clear c4
    obtain rfl := Option.some.inj H
    go_enter Try.func52, Try.ntmps52
    go_wp2
    go_ret
    exact ⟨by first | rfl | (simp; done) | (simp [*]; done), by repeat (first | exact Drawn0.refl _ | apply Drawn0.step)⟩

/-! ### impl_SquareQuotient: function 17 -/
def impl_SquareQuotient.f (a0 : Int) (a1 : Int) : Option (Int × Bool) := (impl_within.f a0 0 1000000).bind fun t105 => (if t105 = true then ((impl_within.f a1 0 1000000).bind fun t106 => (if t106 = true then (if (wrap64 (a0 + a1)) = 0 then (some (0, false)) else (if (wrap64 ((wrap64 (a0 * a1)) + 1)) = 0 then (none) else (if (Int.tmod (wrap64 ((wrap64 (a0 * a0)) + (wrap64 (a1 * a1)))) (wrap64 ((wrap64 (a0 * a1)) + 1))) = 0 then (some (wrap64 (Int.tdiv (wrap64 ((wrap64 (a0 * a0)) + (wrap64 (a1 * a1)))) (wrap64 ((wrap64 (a0 * a1)) + 1))), true)) else (some (0, false))))) else (some (0, false)))) else (some (0, false)))
set_option maxHeartbeats 8000000 in
set_option maxRecDepth 100000 in
theorem impl_SquareQuotient.calls (a0 : Int) (a1 : Int) (r1 : Int) (r2 : Bool) (w : World) (h : impl_SquareQuotient.f a0 a1 = some (r1, r2)) :
    Calls Try.prog 17 #[.int .i64 a0, .int .i64 a1] w fun e w' => e = .returned (.tuple #[.int .i64 r1, .bool r2]) ∧ Drawn0 w w' := by
  have H : ((impl_within.f a0 0 1000000).bind fun t105 => (if t105 = true then ((impl_within.f a1 0 1000000).bind fun t106 => (if t106 = true then (if (wrap64 (a0 + a1)) = 0 then (some (0, false)) else (if (wrap64 ((wrap64 (a0 * a1)) + 1)) = 0 then (none) else (if (Int.tmod (wrap64 ((wrap64 (a0 * a0)) + (wrap64 (a1 * a1)))) (wrap64 ((wrap64 (a0 * a1)) + 1))) = 0 then (some (wrap64 (Int.tdiv (wrap64 ((wrap64 (a0 * a0)) + (wrap64 (a1 * a1)))) (wrap64 ((wrap64 (a0 * a1)) + 1))), true)) else (some (0, false))))) else (some (0, false)))) else (some (0, false)))) = some (r1, r2) := h
  clear h
  replace H := Option.bind_eq_some_iff.mp H
  obtain ⟨t105, A30, H⟩ := H
  replace H : (if t105 = true then ((impl_within.f a1 0 1000000).bind fun t106 => (if t106 = true then (if (wrap64 (a0 + a1)) = 0 then (some (0, false)) else (if (wrap64 ((wrap64 (a0 * a1)) + 1)) = 0 then (none) else (if (Int.tmod (wrap64 ((wrap64 (a0 * a0)) + (wrap64 (a1 * a1)))) (wrap64 ((wrap64 (a0 * a1)) + 1))) = 0 then (some (wrap64 (Int.tdiv (wrap64 ((wrap64 (a0 * a0)) + (wrap64 (a1 * a1)))) (wrap64 ((wrap64 (a0 * a1)) + 1))), true)) else (some (0, false))))) else (some (0, false)))) else (some (0, false))) = some (r1, r2) := H
  have A3 := Aside0.mk A30
  clear A30
  by_cases c4 : t105 = true
  · subst c4
    have H1 : ((impl_within.f a1 0 1000000).bind fun t106 => (if t106 = true then (if (wrap64 (a0 + a1)) = 0 then (some (0, false)) else (if (wrap64 ((wrap64 (a0 * a1)) + 1)) = 0 then (none) else (if (Int.tmod (wrap64 ((wrap64 (a0 * a0)) + (wrap64 (a1 * a1)))) (wrap64 ((wrap64 (a0 * a1)) + 1))) = 0 then (some (wrap64 (Int.tdiv (wrap64 ((wrap64 (a0 * a0)) + (wrap64 (a1 * a1)))) (wrap64 ((wrap64 (a0 * a1)) + 1))), true)) else (some (0, false))))) else (some (0, false)))) = some (r1, r2) := by rw [if_pos rfl] at H; exact H
    clear H
    have H := H1
    clear H1
    replace H := Option.bind_eq_some_iff.mp H
    obtain ⟨t106, A50, H⟩ := H
    replace H : (if t106 = true then (if (wrap64 (a0 + a1)) = 0 then (some (0, false)) else (if (wrap64 ((wrap64 (a0 * a1)) + 1)) = 0 then (none) else (if (Int.tmod (wrap64 ((wrap64 (a0 * a0)) + (wrap64 (a1 * a1)))) (wrap64 ((wrap64 (a0 * a1)) + 1))) = 0 then (some (wrap64 (Int.tdiv (wrap64 ((wrap64 (a0 * a0)) + (wrap64 (a1 * a1)))) (wrap64 ((wrap64 (a0 * a1)) + 1))), true)) else (some (0, false))))) else (some (0, false))) = some (r1, r2) := H
    have A5 := Aside0.mk A50
    clear A50
    by_cases c6 : t106 = true
    · subst c6
      have H1 : (if (wrap64 (a0 + a1)) = 0 then (some (0, false)) else (if (wrap64 ((wrap64 (a0 * a1)) + 1)) = 0 then (none) else (if (Int.tmod (wrap64 ((wrap64 (a0 * a0)) + (wrap64 (a1 * a1)))) (wrap64 ((wrap64 (a0 * a1)) + 1))) = 0 then (some (wrap64 (Int.tdiv (wrap64 ((wrap64 (a0 * a0)) + (wrap64 (a1 * a1)))) (wrap64 ((wrap64 (a0 * a1)) + 1))), true)) else (some (0, false))))) = some (r1, r2) := by rw [if_pos rfl] at H; exact H
      clear H
      have H := H1
      clear H1
      by_cases c7 : (wrap64 (a0 + a1)) = 0
      · rw [if_pos c7] at H
        have c7b0 : ((wrap64 (a0 + a1)) == 0) = true := beq_iff_eq.mpr c7
        have c7b1 : ((wrap64 (a0 + a1)) != 0) = false := bne_eq_false_iff_eq.mpr c7
        clear c7
        simp only [Option.some.injEq, Prod.mk.injEq] at H
        obtain ⟨rfl, rfl⟩ := H
        go_enter Try.func17, Try.ntmps17
        go_wp2_with (first | ((with_reducible refine gate_callee (f := 52) rfl ?_); refine goesL_ (some 7) rfl rfl Try.func52 (by kernel_rfl) rfl #[.int .i64 a0, .int .i64 0, .int .i64 1000000] rfl (by (try simp only [List.map_toArray, List.map_cons, List.map_nil]); first | done | rfl | (simp only [List.length_drop, List.length_take]; rfl)) ?_; (with_reducible refine (impl_within.calls a0 0 1000000 true _ A3.out).mono ?_); rintro e w' ⟨rfl, ⟨nd, rfl⟩⟩; refine ⟨_, rfl, ?_⟩) | (go_at_call 52; (with_reducible refine (impl_within.calls a1 0 1000000 true _ A5.out).mono ?_); rintro e w' ⟨rfl, ⟨nd, rfl⟩⟩))
        go_ret2
        exact ⟨by first | rfl | (simp; done) | (simp [*]; done), by repeat (first | exact Drawn0.refl _ | apply Drawn0.step)⟩
      · rw [if_neg c7] at H
        have c7b0 : ((wrap64 (a0 + a1)) == 0) = false := beq_eq_false_iff_ne.mpr c7
        have c7b1 : ((wrap64 (a0 + a1)) != 0) = true := bne_iff_ne.mpr c7
        by_cases c8 : (wrap64 ((wrap64 (a0 * a1)) + 1)) = 0
        · rw [if_pos c8] at H
          exact absurd H (by simp)
        · rw [if_neg c8] at H
          have c8b0 : ((wrap64 ((wrap64 (a0 * a1)) + 1)) == 0) = false := beq_eq_false_iff_ne.mpr c8
          have c8b1 : ((wrap64 ((wrap64 (a0 * a1)) + 1)) != 0) = true := bne_iff_ne.mpr c8
          by_cases c9 : (Int.tmod (wrap64 ((wrap64 (a0 * a0)) + (wrap64 (a1 * a1)))) (wrap64 ((wrap64 (a0 * a1)) + 1))) = 0
          · rw [if_pos c9] at H
            have c9b0 : ((Int.tmod (wrap64 ((wrap64 (a0 * a0)) + (wrap64 (a1 * a1)))) (wrap64 ((wrap64 (a0 * a1)) + 1))) == 0) = true := beq_iff_eq.mpr c9
            have c9b1 : ((Int.tmod (wrap64 ((wrap64 (a0 * a0)) + (wrap64 (a1 * a1)))) (wrap64 ((wrap64 (a0 * a1)) + 1))) != 0) = false := bne_eq_false_iff_eq.mpr c9
            clear c9
            simp only [Option.some.injEq, Prod.mk.injEq] at H
            obtain ⟨rfl, rfl⟩ := H
            go_enter Try.func17, Try.ntmps17
            go_wp2_with (first | ((with_reducible refine gate_callee (f := 52) rfl ?_); refine goesL_ (some 7) rfl rfl Try.func52 (by kernel_rfl) rfl #[.int .i64 a0, .int .i64 0, .int .i64 1000000] rfl (by (try simp only [List.map_toArray, List.map_cons, List.map_nil]); first | done | rfl | (simp only [List.length_drop, List.length_take]; rfl)) ?_; (with_reducible refine (impl_within.calls a0 0 1000000 true _ A3.out).mono ?_); rintro e w' ⟨rfl, ⟨nd, rfl⟩⟩; refine ⟨_, rfl, ?_⟩) | (go_at_call 52; (with_reducible refine (impl_within.calls a1 0 1000000 true _ A5.out).mono ?_); rintro e w' ⟨rfl, ⟨nd, rfl⟩⟩))
            go_ret2
            exact ⟨by first | rfl | (simp; done) | (simp [*]; done), by repeat (first | exact Drawn0.refl _ | apply Drawn0.step)⟩
          · rw [if_neg c9] at H
            have c9b0 : ((Int.tmod (wrap64 ((wrap64 (a0 * a0)) + (wrap64 (a1 * a1)))) (wrap64 ((wrap64 (a0 * a1)) + 1))) == 0) = false := beq_eq_false_iff_ne.mpr c9
            have c9b1 : ((Int.tmod (wrap64 ((wrap64 (a0 * a0)) + (wrap64 (a1 * a1)))) (wrap64 ((wrap64 (a0 * a1)) + 1))) != 0) = true := bne_iff_ne.mpr c9
            simp only [Option.some.injEq, Prod.mk.injEq] at H
            obtain ⟨rfl, rfl⟩ := H
            go_enter Try.func17, Try.ntmps17
            go_wp2_with (first | ((with_reducible refine gate_callee (f := 52) rfl ?_); refine goesL_ (some 7) rfl rfl Try.func52 (by kernel_rfl) rfl #[.int .i64 a0, .int .i64 0, .int .i64 1000000] rfl (by (try simp only [List.map_toArray, List.map_cons, List.map_nil]); first | done | rfl | (simp only [List.length_drop, List.length_take]; rfl)) ?_; (with_reducible refine (impl_within.calls a0 0 1000000 true _ A3.out).mono ?_); rintro e w' ⟨rfl, ⟨nd, rfl⟩⟩; refine ⟨_, rfl, ?_⟩) | (go_at_call 52; (with_reducible refine (impl_within.calls a1 0 1000000 true _ A5.out).mono ?_); rintro e w' ⟨rfl, ⟨nd, rfl⟩⟩))
            go_ret2
            exact ⟨by first | rfl | (simp; done) | (simp [*]; done), by repeat (first | exact Drawn0.refl _ | apply Drawn0.step)⟩
    · replace c6 := Bool.eq_false_iff.mpr c6
      subst c6
      have H1 : (some (0, false)) = some (r1, r2) := by rw [if_neg (show ¬ (false = true) by decide)] at H; exact H
      clear H
      have H := H1
      clear H1
      simp only [Option.some.injEq, Prod.mk.injEq] at H
      obtain ⟨rfl, rfl⟩ := H
      go_enter Try.func17, Try.ntmps17
      go_wp2_with (first | ((with_reducible refine gate_callee (f := 52) rfl ?_); refine goesL_ (some 7) rfl rfl Try.func52 (by kernel_rfl) rfl #[.int .i64 a0, .int .i64 0, .int .i64 1000000] rfl (by (try simp only [List.map_toArray, List.map_cons, List.map_nil]); first | done | rfl | (simp only [List.length_drop, List.length_take]; rfl)) ?_; (with_reducible refine (impl_within.calls a0 0 1000000 true _ A3.out).mono ?_); rintro e w' ⟨rfl, ⟨nd, rfl⟩⟩; refine ⟨_, rfl, ?_⟩) | (go_at_call 52; (with_reducible refine (impl_within.calls a1 0 1000000 false _ A5.out).mono ?_); rintro e w' ⟨rfl, ⟨nd, rfl⟩⟩))
      go_ret2
      exact ⟨by first | rfl | (simp; done) | (simp [*]; done), by repeat (first | exact Drawn0.refl _ | apply Drawn0.step)⟩
  · replace c4 := Bool.eq_false_iff.mpr c4
    subst c4
    have H1 : (some (0, false)) = some (r1, r2) := by rw [if_neg (show ¬ (false = true) by decide)] at H; exact H
    clear H
    have H := H1
    clear H1
    simp only [Option.some.injEq, Prod.mk.injEq] at H
    obtain ⟨rfl, rfl⟩ := H
    go_enter Try.func17, Try.ntmps17
    go_wp2_with (first | ((with_reducible refine gate_callee (f := 52) rfl ?_); refine goesL_ (some 7) rfl rfl Try.func52 (by kernel_rfl) rfl #[.int .i64 a0, .int .i64 0, .int .i64 1000000] rfl (by (try simp only [List.map_toArray, List.map_cons, List.map_nil]); first | done | rfl | (simp only [List.length_drop, List.length_take]; rfl)) ?_; (with_reducible refine (impl_within.calls a0 0 1000000 false _ A3.out).mono ?_); rintro e w' ⟨rfl, ⟨nd, rfl⟩⟩; refine ⟨_, rfl, ?_⟩))
    go_ret2
    exact ⟨by first | rfl | (simp; done) | (simp [*]; done), by repeat (first | exact Drawn0.refl _ | apply Drawn0.step)⟩

end Go.Proofs.Ytgigkjcfnngdmaa.P
