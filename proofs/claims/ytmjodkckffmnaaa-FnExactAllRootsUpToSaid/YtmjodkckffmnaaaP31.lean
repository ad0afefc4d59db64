/- Written by a program of this session: for Go functions that a statement reaches, Lean functions with the same answers and the proofs that the calls come to them; conditions: none but the arguments' kinds. -/
import Derived.Test.YtmjodkckffmnaaaP0
import Derived.Test.YtmjodkckffmnaaaP30
namespace Go.Proofs.Ytmjodkckffmnaaa.P
open Go.RowKit Go.Proofs.YtmjodkckffmnaaaW.PrintWords Go.Proofs.YtmjodkckffmnaaaW.PrintLast Go.Proofs.YtmjodkckffmnaaaW.PrintMore
attribute [local go_sem] max2_int min2_int max_two min_two max_three min_three max_four min_four   -- for this text's walks alone
set_option linter.unusedVariables false
set_option linter.unusedSimpArgs false

/-! ### slices_Compare_int_int: function 114 -/
def slices_Compare_int_int.l0 : Nat → List Int → List Int → List Int → Int → Int → Option (Int)
  | 0, _, _, _, _, _ => none
  | k + 1, x0, x1, x9, x10, x11 => if x11 < x10 then (if 0 ≤ x11 then (if x11 < (x9.length : Int) then (if x11 ≥ (x1.length : Int) then (some 1) else (if x11 < (x1.length : Int) then ((cmp_Compare_int.f (rd x9 x11) (rd x1 x11)).bind fun t747 => (if t747 = 0 then (slices_Compare_int_int.l0 k x0 x1 x9 x10 (wrap64 (x11 + 1))) else (some t747))) else (none))) else (none)) else (none)) else (if (x0.length : Int) < (x1.length : Int) then (some (-1)) else (some 0))
def slices_Compare_int_int.f (k : Nat) (l0 : List Int) (l1 : List Int) : Option (Int) := slices_Compare_int_int.l0 k l0 l1 l0 (l0.length : Int) 0
theorem slices_Compare_int_int.mono_l : ∀ k, (∀ y0 y1 y2 y3 y4, LeO (slices_Compare_int_int.l0 k y0 y1 y2 y3 y4) (slices_Compare_int_int.l0 (k + 1) y0 y1 y2 y3 y4))
  | 0 => fun _ _ _ _ _ r h => by simp [slices_Compare_int_int.l0] at h
  | k + 1 => by
    have ih0 := slices_Compare_int_int.mono_l k
    · intro y0 y1 y2 y3 y4
      unfold slices_Compare_int_int.l0
      repeat' first
      | (with_reducible exact ih0 _ _ _ _ _)
      | (with_reducible exact LeO.refl _)
      | (with_reducible exact LeO.none _)
      | (with_reducible refine LeO.ite ?_ ?_)
      | (with_reducible refine LeO.bind ?_ (fun _ => ?_))
      | exact ih0 _ _ _ _ _
      | exact LeO.none _
      | refine LeO.ite ?_ ?_
      | refine LeO.bind ?_ (fun _ => ?_)
theorem slices_Compare_int_int.mono : ∀ a0 a1 k, LeO (slices_Compare_int_int.f k a0 a1) (slices_Compare_int_int.f (k + 1) a0 a1) := by
  intro a0 a1 k
  have ih0 := slices_Compare_int_int.mono_l k
  unfold slices_Compare_int_int.f
  repeat' first
      | (with_reducible exact ih0 _ _ _ _ _)
      | (with_reducible exact LeO.refl _)
      | (with_reducible exact LeO.none _)
      | (with_reducible refine LeO.ite ?_ ?_)
      | (with_reducible refine LeO.bind ?_ (fun _ => ?_))
      | exact ih0 _ _ _ _ _
      | exact LeO.none _
      | refine LeO.ite ?_ ?_
      | refine LeO.bind ?_ (fun _ => ?_)
set_option maxHeartbeats 8000000 in
set_option maxRecDepth 100000 in
theorem slices_Compare_int_int.calls (k : Nat) (A0 : Option Addr) (c0 : Nat) (l0 : List Int) (A1 : Option Addr) (c1 : Nat) (l1 : List Int) (r : Int) (w : World) (hr0 : Kd.C (Kd.int .i64) w A0 l0.length l0) (hc0 : l0.length ≤ c0) (hr1 : Kd.C (Kd.int .i64) w A1 l1.length l1) (hc1 : l1.length ≤ c1) (h : slices_Compare_int_int.f k l0 l1 = some r) :
    Calls Try.prog 114 #[.slice A0 l0.length c0, .slice A1 l1.length c1] w fun e w' => e = .returned (.int .i64 r) ∧ Drawn0 w w' := by
  have HR0 := Aside0.mk hr0
  have HC0 := Aside0.mk hc0
  clear hr0 hc0
  have HR1 := Aside0.mk hr1
  have HC1 := Aside0.mk hc1
  clear hr1 hc1
  have H : (slices_Compare_int_int.l0 k l0 l1 l0 (l0.length : Int) 0) = some r := h
  clear h
  have H' := Aside0.mk H
  clear H
  go_enter Try.func114, Try.ntmps114
  go_wp2
  go_loopg [11] k (fun kq v11 w' => ∃ (x11_1 : Int), v11 = .int .i64 x11_1 ∧ Aside0 (slices_Compare_int_int.l0 kq l0 l1 l0 (l0.length : Int) x11_1 = some r) ∧ Aside0 (kq ≤ k) ∧ Drawn0 w w')
  case atStart => exact ⟨(0), (by first | rfl | (simp; done) | (simp [*]; done)), H', ⟨Nat.le_refl _⟩, by repeat (first | exact Drawn0.refl _ | apply Drawn0.step)⟩
  case round =>
    clear H'
    try clear c1
    try clear p2
    obtain ⟨x11_1, rfl, HA, HK1, ⟨m1, rfl⟩⟩ := hrel
    cases gk with
    | zero => exact absurd HA.out (by simp [slices_Compare_int_int.l0])
    | succ k1 =>
      have H := HA.out
      clear HA
      simp only [slices_Compare_int_int.l0] at H
      by_cases c3 : x11_1 < (l0.length : Int)
      · rw [if_pos c3] at H
        have c3b0 : decide (x11_1 < (l0.length : Int)) = true := decide_eq_true c3
        clear c3
        by_cases c4 : 0 ≤ x11_1
        · rw [if_pos c4] at H
          have c4b0 : decide (0 ≤ x11_1) = true := decide_eq_true c4
          clear c4
          by_cases c5 : x11_1 < (l0.length : Int)
          · rw [if_pos c5] at H
            have c5b0 : decide (x11_1 < (l0.length : Int)) = true := decide_eq_true c5
            clear c5
            by_cases c6 : x11_1 ≥ (l1.length : Int)
            · rw [if_pos c6] at H
              have c6b0 : decide ((l1.length : Int) ≤ x11_1) = true := decide_eq_true c6
              clear c6
              obtain rfl := Option.some.inj H
              have p745 : 0 ≤ (x11_1 : Int) := of_decide_eq_true (by first | (with_reducible assumption) | assumption)
              have q745 : x11_1 < (l0.length : Int) := of_decide_eq_true (by first | (with_reducible assumption) | assumption)
              obtain ⟨ad745, e745, hx745_0⟩ := Kd.at_int HR0.out x11_1 p745 q745
              cases e745
              replace p745 := eq_true p745
              replace q745 := eq_true q745
              go_wp2
              go_ret
              exact ⟨by first | rfl | (simp; done) | (simp [*]; done), by repeat (first | exact Drawn0.refl _ | apply Drawn0.step)⟩
            · rw [if_neg c6] at H
              have c6b0 : decide ((l1.length : Int) ≤ x11_1) = false := decide_eq_false c6
              clear c6
              by_cases c7 : x11_1 < (l1.length : Int)
              · rw [if_pos c7] at H
                have c7b0 : decide (x11_1 < (l1.length : Int)) = true := decide_eq_true c7
                clear c7
                replace H := Option.bind_eq_some_iff.mp H
                obtain ⟨t747, A80, H⟩ := H
                replace H : (if t747 = 0 then (slices_Compare_int_int.l0 k1 l0 l1 l0 (l0.length : Int) (wrap64 (x11_1 + 1))) else (some t747)) = some r := H
                have A8 := Aside0.mk A80
                clear A80
                by_cases c9 : t747 = 0
                · rw [if_pos c9] at H
                  have c9b0 : (t747 == 0) = true := beq_iff_eq.mpr c9
                  have c9b1 : (t747 != 0) = false := bne_eq_false_iff_eq.mpr c9
                  clear c9
                  have H' := Aside0.mk H
                  clear H
                  have p745 : 0 ≤ (x11_1 : Int) := of_decide_eq_true (by first | (with_reducible assumption) | assumption)
                  have q745 : x11_1 < (l0.length : Int) := of_decide_eq_true (by first | (with_reducible assumption) | assumption)
                  obtain ⟨ad745, e745, hx745_0⟩ := Kd.at_int HR0.out x11_1 p745 q745
                  cases e745
                  replace p745 := eq_true p745
                  replace q745 := eq_true q745
                  have p746 : 0 ≤ (x11_1 : Int) := of_decide_eq_true (by first | (with_reducible assumption) | assumption)
                  have q746 : x11_1 < (l1.length : Int) := of_decide_eq_true (by first | (with_reducible assumption) | assumption)
                  obtain ⟨ad746, e746, hx746_0⟩ := Kd.at_int HR1.out x11_1 p746 q746
                  cases e746
                  replace p746 := eq_true p746
                  replace q746 := eq_true q746
                  go_wp2_with (first | ((with_reducible refine gate_callee (f := 123) rfl ?_); refine goesL_ (some 26) rfl rfl Try.func123 (by kernel_rfl) rfl #[.int .i64 (rd l0 x11_1), .int .i64 (rd l1 x11_1)] rfl (by (try simp only [List.map_toArray, List.map_cons, List.map_nil]); first | done | rfl | (simp only [List.length_drop, List.length_take]; rfl)) ?_; (with_reducible refine (cmp_Compare_int.calls (rd l0 x11_1) (rd l1 x11_1) t747 _ A8.out).mono ?_); rintro e w' ⟨rfl, ⟨nd, rfl⟩⟩; refine ⟨_, rfl, ?_⟩))
                  go_roundg k1
                  case measure => have := HK1.out; omega
                  case rel => exact ⟨(wrap64 (x11_1 + 1)), (by first | rfl | (simp; done) | (simp [*]; done)), H', ⟨by have := HK1.out; omega⟩, by repeat (first | exact Drawn0.refl _ | apply Drawn0.step)⟩
                · rw [if_neg c9] at H
                  have c9b0 : (t747 == 0) = false := beq_eq_false_iff_ne.mpr c9
                  have c9b1 : (t747 != 0) = true := bne_iff_ne.mpr c9
                  obtain rfl := Option.some.inj H
                  have p745 : 0 ≤ (x11_1 : Int) := of_decide_eq_true (by first | (with_reducible assumption) | assumption)
                  have q745 : x11_1 < (l0.length : Int) := of_decide_eq_true (by first | (with_reducible assumption) | assumption)
                  obtain ⟨ad745, e745, hx745_0⟩ := Kd.at_int HR0.out x11_1 p745 q745
                  cases e745
                  replace p745 := eq_true p745
                  replace q745 := eq_true q745
                  have p746 : 0 ≤ (x11_1 : Int) := of_decide_eq_true (by first | (with_reducible assumption) | assumption)
                  have q746 : x11_1 < (l1.length : Int) := of_decide_eq_true (by first | (with_reducible assumption) | assumption)
                  obtain ⟨ad746, e746, hx746_0⟩ := Kd.at_int HR1.out x11_1 p746 q746
                  cases e746
                  replace p746 := eq_true p746
                  replace q746 := eq_true q746
                  go_wp2_with (first | ((with_reducible refine gate_callee (f := 123) rfl ?_); refine goesL_ (some 26) rfl rfl Try.func123 (by kernel_rfl) rfl #[.int .i64 (rd l0 x11_1), .int .i64 (rd l1 x11_1)] rfl (by (try simp only [List.map_toArray, List.map_cons, List.map_nil]); first | done | rfl | (simp only [List.length_drop, List.length_take]; rfl)) ?_; (with_reducible refine (cmp_Compare_int.calls (rd l0 x11_1) (rd l1 x11_1) t747 _ A8.out).mono ?_); rintro e w' ⟨rfl, ⟨nd, rfl⟩⟩; refine ⟨_, rfl, ?_⟩))
                  go_ret
                  exact ⟨by first | rfl | (simp; done) | (simp [*]; done), by repeat (first | exact Drawn0.refl _ | apply Drawn0.step)⟩
              · rw [if_neg c7] at H
                exact absurd H (by simp)
          · rw [if_neg c5] at H
            exact absurd H (by simp)
        · rw [if_neg c4] at H
          exact absurd H (by simp)
      · rw [if_neg c3] at H
        have c3b0 : decide (x11_1 < (l0.length : Int)) = false := decide_eq_false c3
        clear c3
        by_cases c10 : (l0.length : Int) < (l1.length : Int)
        · rw [if_pos c10] at H
          have c10b0 : decide ((l0.length : Int) < (l1.length : Int)) = true := decide_eq_true c10
          have c10b1 : decide (l0.length < l1.length) = true := decide_eq_true (Int.ofNat_lt.mp c10)
          clear c10
          obtain rfl := Option.some.inj H
          go_wp2
          go_ret
          exact ⟨by first | rfl | (simp; done) | (simp [*]; done), by repeat (first | exact Drawn0.refl _ | apply Drawn0.step)⟩
        · rw [if_neg c10] at H
          have c10b0 : decide ((l0.length : Int) < (l1.length : Int)) = false := decide_eq_false c10
          have c10b1 : decide (l0.length < l1.length) = false := decide_eq_false (fun h => c10 (Int.ofNat_lt.mpr h))
          clear c10
          obtain rfl := Option.some.inj H
          go_wp2
          go_ret
          exact ⟨by first | rfl | (simp; done) | (simp [*]; done), by repeat (first | exact Drawn0.refl _ | apply Drawn0.step)⟩

/-! ### slices_SortFunc_int_int: function 113 -/
open Go.Shelf in
def laysSF_ren : Go.Shelf.Ren := ⟨fun | 6 => 113 | 15 => 121 | 14 => 122 | 28 => 134 | 29 => 135 | 20 => 136 | 21 => 137 | 22 => 138 | 23 => 139 | 24 => 140 | 25 => 141 | 26 => 142 | 27 => 143 | 46 => 150 | 47 => 146 | 48 => 147 | 49 => 151 | 50 => 152 | 57 => 154 | n => n, fun | 22 => 26 | 24 => 22 | 25 => 54 | 3 => 3 | 39 => 86 | 0 => 0 | 53 => 96 | 55 => 98 | 4 => 4 | 46 => 90 | 45 => 89 | 50 => 33 | 5 => 5 | 9 => 9 | 66 => 104 | 70 => 108 | 76 => 112 | 77 => 113 | n => n, fun | n => n⟩
theorem laysSF : Go.Proofs.SlLaysF.n6 Try.prog laysSF_ren := {
  mixed := by kernel_rfl
  f6 := ⟨Try.f113.name, by decide, Try.func113.trans (congrArg some (by kernel_rfl))⟩
  f14 := ⟨Try.f122.name, by decide, Try.func122.trans (congrArg some (by kernel_rfl))⟩
  f15 := Try.func121.trans (congrArg some (by kernel_rfl))
  f20 := ⟨Try.f136.name, by decide, Try.func136.trans (congrArg some (by kernel_rfl))⟩
  f21 := ⟨Try.f137.name, by decide, Try.func137.trans (congrArg some (by kernel_rfl))⟩
  f22 := ⟨Try.f138.name, by decide, Try.func138.trans (congrArg some (by kernel_rfl))⟩
  f23 := ⟨Try.f139.name, by decide, Try.func139.trans (congrArg some (by kernel_rfl))⟩
  f24 := ⟨Try.f140.name, by decide, Try.func140.trans (congrArg some (by kernel_rfl))⟩
  f25 := ⟨Try.f141.name, by decide, Try.func141.trans (congrArg some (by kernel_rfl))⟩
  f26 := ⟨Try.f142.name, by decide, Try.func142.trans (congrArg some (by kernel_rfl))⟩
  f27 := ⟨Try.f143.name, by decide, Try.func143.trans (congrArg some (by kernel_rfl))⟩
  f28 := Try.func134.trans (congrArg some (by kernel_rfl))
  f29 := Try.func135.trans (congrArg some (by kernel_rfl))
  f46 := ⟨Try.f150.name, by decide, Try.func150.trans (congrArg some (by kernel_rfl))⟩
  f47 := Try.func146.trans (congrArg some (by kernel_rfl))
  f48 := Try.func147.trans (congrArg some (by kernel_rfl))
  f49 := ⟨Try.f151.name, by decide, Try.func151.trans (congrArg some (by kernel_rfl))⟩
  f50 := ⟨Try.f152.name, by decide, Try.func152.trans (congrArg some (by kernel_rfl))⟩
  f57 := ⟨Try.f154.name, by decide, Try.func154.trans (congrArg some (by kernel_rfl))⟩
  t0 := Try.underlying0
  a0 := Try.isAgg0
  z0 := Try.sizeOf0
  v0 := Try.zeroValue0
  t3 := Try.underlying3
  a3 := Try.isAgg3
  z3 := Try.sizeOf3
  v3 := Try.zeroValue3
  t4 := Try.underlying4
  a4 := Try.isAgg4
  z4 := Try.sizeOf4
  v4 := Try.zeroValue4
  t5 := Try.underlying5
  a5 := Try.isAgg5
  z5 := Try.sizeOf5
  v5 := Try.zeroValue5
  t9 := Try.underlying9
  a9 := Try.isAgg9
  z9 := Try.sizeOf9
  v9 := Try.zeroValue9
  t22 := Try.underlying26
  a22 := Try.isAgg26
  z22 := Try.sizeOf26
  v22 := Try.zeroValue26
  a24 := Try.isAgg22
  z24 := Try.sizeOf22
  t25 := Try.underlying54
  a25 := Try.isAgg54
  z25 := Try.sizeOf54
  v25 := Try.zeroValue54
  t39 := Try.underlying86
  a39 := Try.isAgg86
  z39 := Try.sizeOf86
  v39 := Try.zeroValue86
  t45 := Try.underlying89
  a45 := Try.isAgg89
  z45 := Try.sizeOf89
  v45 := Try.zeroValue89
  t46 := Try.underlying90
  a46 := Try.isAgg90
  z46 := Try.sizeOf90
  v46 := Try.zeroValue90
  t50 := Try.underlying33
  a50 := Try.isAgg33
  z50 := Try.sizeOf33
  v50 := Try.zeroValue33
  t53 := Try.underlying96
  a53 := Try.isAgg96
  z53 := Try.sizeOf96
  v53 := Try.zeroValue96
  t55 := Try.underlying98
  a55 := Try.isAgg98
  z55 := Try.sizeOf98
  v55 := Try.zeroValue98
  t66 := Try.underlying104
  a66 := Try.isAgg104
  z66 := Try.sizeOf104
  v66 := Try.zeroValue104
  t70 := Try.underlying108
  a70 := Try.isAgg108
  z70 := Try.sizeOf108
  v70 := Try.zeroValue108
  t76 := Try.underlying112
  a76 := Try.isAgg112
  z76 := Try.sizeOf112
  v76 := Try.zeroValue112
  t77 := Try.underlying113
  a77 := Try.isAgg113
  z77 := Try.sizeOf113
  v77 := Try.zeroValue113 }

/-- Rows compared, the least first. -/
def cmpL : List Int → List Int → Int
  | [], [] => 0
  | [], _ :: _ => -1
  | _ :: _, [] => 1
  | a :: x, b :: y => if a < b then -1 else if b < a then 1 else cmpL x y
theorem cmpL_self : ∀ x, cmpL x x = 0
  | [] => rfl
  | a :: x => by
    simp only [cmpL]
    rw [if_neg (by omega), if_neg (by omega)]
    exact cmpL_self x
theorem cmpL_trans : ∀ x y z, cmpL x y < 0 → cmpL y z < 0 → cmpL x z < 0
  | [], [], _, h, _ => by simp [cmpL] at h
  | [], _ :: _, [], _, h => by simp [cmpL] at h
  | [], _ :: _, _ :: _, _, _ => by simp [cmpL]
  | _ :: _, [], _, h, _ => by simp [cmpL] at h
  | _ :: _, _ :: _, [], _, h => by simp [cmpL] at h
  | a :: x, b :: y, c :: z, h1, h2 => by
    simp only [cmpL] at h1 h2 ⊢
    have ih := cmpL_trans x y z
    rcases Int.lt_trichotomy a b with e | e | e
    · rcases Int.lt_trichotomy b c with f | f | f
      · rw [if_pos (show a < c by omega)]; decide
      · rw [if_pos (show a < c by omega)]; decide
      · rw [if_neg (by omega), if_pos f] at h2; simp at h2
    · rcases Int.lt_trichotomy b c with f | f | f
      · rw [if_pos (show a < c by omega)]; decide
      · rw [if_neg (by omega), if_neg (by omega)] at h1 h2 ⊢
        exact ih h1 h2
      · rw [if_neg (by omega), if_pos f] at h2; simp at h2
    · rw [if_neg (by omega), if_pos e] at h1; simp at h1
theorem cmpL_ntrans : ∀ x y z, ¬ cmpL x y < 0 → ¬ cmpL y z < 0 → ¬ cmpL x z < 0
  | _, [], [], h, _ => h
  | [], [], _ :: _, _, h => absurd (by simp [cmpL]) h
  | _ :: _, [], _ :: _, _, h => absurd (by simp [cmpL]) h
  | [], _ :: _, _, h, _ => absurd (by simp [cmpL]) h
  | _ :: _, _ :: _, [], _, _ => by simp [cmpL]
  | a :: x, b :: y, c :: z, h1, h2 => by
    simp only [cmpL] at h1 h2 ⊢
    have ih := cmpL_ntrans x y z
    rcases Int.lt_trichotomy a b with e | e | e
    · rw [if_pos e] at h1; simp at h1
    · rcases Int.lt_trichotomy b c with f | f | f
      · rw [if_pos f] at h2; simp at h2
      · rw [if_neg (by omega), if_neg (by omega)] at h1 h2 ⊢
        exact ih h1 h2
      · rw [if_neg (by omega), if_pos (show c < a by omega)]; decide
    · rcases Int.lt_trichotomy b c with f | f | f
      · rw [if_pos f] at h2; simp at h2
      · rw [if_neg (by omega), if_pos (show c < a by omega)]; decide
      · rw [if_neg (by omega), if_pos (show c < a by omega)]; decide
theorem slCmp_l (l m : List Int) (hl : (l.length : Int) ≤ 9223372036854775807) (d : Nat) : ∀ (i k : Nat), i + d = l.length → d < k → slices_Compare_int_int.l0 k l m l (l.length : Int) (i : Int) = some (cmpL (l.drop i) (m.drop i)) := by
  induction d with
  | zero =>
    intro i k hi hk
    obtain ⟨k, rfl⟩ : ∃ q, k = q + 1 := ⟨k - 1, by omega⟩
    simp only [slices_Compare_int_int.l0]
    rw [if_neg (by omega), List.drop_eq_nil_of_le (by omega : l.length ≤ i)]
    by_cases hm : m.length ≤ i
    · rw [if_neg (by omega), List.drop_eq_nil_of_le hm]; rfl
    · rw [if_pos (by omega), List.drop_eq_getElem_cons (by omega)]; rfl
  | succ d ih =>
    intro i k hi hk
    obtain ⟨k, rfl⟩ : ∃ q, k = q + 1 := ⟨k - 1, by omega⟩
    have h1 : i < l.length := by omega
    have r1 : rd l (i : Int) = l[i] := by simp [rd, List.getD_eq_getElem?_getD, List.getElem?_eq_getElem h1]
    simp only [slices_Compare_int_int.l0]
    rw [if_pos (by omega), if_pos (by omega), if_pos (by omega), r1, List.drop_eq_getElem_cons h1]
    by_cases hm : m.length ≤ i
    · rw [if_pos (by omega), List.drop_eq_nil_of_le hm]; rfl
    · have h2 : i < m.length := by omega
      have r2 : rd m (i : Int) = m[i] := by simp [rd, List.getD_eq_getElem?_getD, List.getElem?_eq_getElem h2]
      rw [if_neg (by omega), if_pos (by omega), r2, List.drop_eq_getElem_cons h2]
      simp only [cmpL, cmp_Compare_int.f, cmp_isNaN_int.f, Option.bind_some, bne_self_eq_false, Bool.false_eq_true, if_false]
      by_cases e : l[i] < m[i]
      · rw [if_pos e, if_pos e]; rfl
      · by_cases e' : m[i] < l[i]
        · rw [if_neg e, if_neg e, if_pos e', if_pos (show l[i] > m[i] from e')]; rfl
        · rw [if_neg e, if_neg e, if_neg e', if_neg (show ¬ l[i] > m[i] from e'), show wrap64 ((i : Int) + 1) = ((i + 1 : Nat) : Int) by unfold wrap64; omega]
          simp only [Option.bind_some, if_true]
          exact ih (i + 1) k (by omega) (by omega)
theorem slCmp_f (l m : List Int) (hl : (l.length : Int) ≤ 9223372036854775807) : slices_Compare_int_int.f (l.length + 1) l m = some (cmpL l m) := by
  unfold slices_Compare_int_int.f
  have := slCmp_l l m hl l.length 0 (l.length + 1) (by omega) (by omega)
  simpa using this
/-- Each row comes before the next. -/
def risingB : List (List Int) → Bool
  | a :: b :: r => decide (cmpL a b < 0) && risingB (b :: r)
  | _ => true
theorem risingB_pw : ∀ l : List (List Int), risingB l = true → l.Pairwise (fun a b => cmpL a b < 0)
  | [], _ => List.Pairwise.nil
  | [_], _ => List.pairwise_singleton _ _
  | a :: b :: r, h => by
    simp only [risingB, Bool.and_eq_true, decide_eq_true_eq] at h
    have ih := risingB_pw (b :: r) h.2
    refine List.pairwise_cons.2 ⟨fun x hx => ?_, ih⟩
    rcases List.mem_cons.1 hx with rfl | hx
    · exact h.1
    · exact cmpL_trans _ _ _ h.1 ((List.pairwise_cons.1 ih).1 x hx)
theorem sortHeap {α : Type} [Inhabited α] (enc : α → Value) (w : World) (g m : Nat) (d : Array α) (os : Array Obj) (k : Nat) (hk : k < w.heap.size) (hne : k ≠ g) : (Go.Sort.grow (Go.Sort.putRow enc (Go.Sort.ahead w m) g 0 d) os).heap[k]? = w.heap[k]? := by
  rw [Go.Sort.heap_grow_old _ _ (by simpa using hk)]
  simp [Go.Sort.putRow, Go.Sort.mapBlock, Go.Sort.ahead, Array.getElem?_modify, Ne.symm hne]
def slices_SortFunc_int_int.f (l0 : List (List Int)) : Option (List (List Int)) := if (decide (0 < l0.length) && decide (l0.length < 4611686018427387904) && risingB l0) = true then some l0 else none
set_option maxHeartbeats 8000000 in
set_option maxRecDepth 100000 in
theorem slices_SortFunc_int_int.calls (P0_ : Nat → Prop) (u9000_ : Value) (l0 r : List (List Int)) (w0 w : World) (hB : Below w0.heap.size w0 w) (ho0 : Kd.S (Kd.slice 3 (Kd.int .i64)) 22 w w0.heap.size P0_ u9000_ l0) (h : slices_SortFunc_int_int.f l0 = some r) :
    Calls Try.prog 113 #[u9000_, .func (.func 114) #[] #[]] w fun e w' => e = .returned (.tuple #[]) ∧ Kd.S (Kd.slice 3 (Kd.int .i64)) 22 w' w0.heap.size (fun k_ => (P0_ k_ ∨ w.heap.size ≤ k_)) u9000_ r ∧ Below w0.heap.size w0 w' ∧ Kept w w' (fun k_ => P0_ k_) := by
  have hl : (0 < l0.length ∧ l0.length < 4611686018427387904 ∧ risingB l0 = true) ∧ l0 = r := by
    unfold slices_SortFunc_int_int.f at h
    split at h
    · rename_i h1
      simp only [Bool.and_eq_true, decide_eq_true_eq] at h1
      exact ⟨⟨h1.1.1, h1.1.2, h1.2⟩, Option.some.inj h⟩
    · cases h
  obtain ⟨⟨hpos, hsz, hris⟩, rfl⟩ := hl
  obtain ⟨g, cap, rfl, hbase, hgl, cells, hgb⟩ := Kd.S_form ho0 hpos
  have hR := Kd.S_R ho0
  obtain ⟨hk0, inner, hown, hrep⟩ := hR
  have hil : inner.length = l0.length := by have := hrep.1; simpa [Kd.slice] using this
  have hrow : ∀ i : Fin l0.length, ∃ A c, inner[i.1]'(by omega) = .slice A (l0[i.1]).length c ∧ (Kd.int .i64).R 3 w w0.heap.size (fun k_ => P0_ k_ ∧ k_ ≠ g) (.slice A (l0[i.1]).length c) l0[i.1] := by
    intro i
    obtain ⟨v, hv, hr⟩ := hrep.2 i.1 _ (List.getElem?_eq_getElem i.2)
    have e1 : (inner.drop (i.1 * 1)).take 1 = [inner[i.1]'(by omega)] := by
      rw [Nat.mul_one, List.drop_eq_getElem_cons (by omega)]; rfl
    have e2 : [inner[i.1]'(by omega)] = [v] := e1.symm.trans hv
    obtain ⟨A, c, e3⟩ := Kd.R_slice hr
    refine ⟨A, c, by rw [← e3]; exact List.head_eq_of_cons_eq e2, ?_⟩
    rw [← e3]
    exact Kd.R_mono hr (fun k hk => ⟨hk.1, fun e_ => hk.2 (by rw [e_]; rfl)⟩)
  haveI : Inhabited (Fin l0.length) := ⟨⟨0, hpos⟩⟩
  let enc : Fin l0.length → Value := fun i => inner[i.1]'(by omega)
  let cf : Fin l0.length → Fin l0.length → Int := fun i j => cmpL l0[i.1] l0[j.1]
  let d : Array (Fin l0.length) := (List.finRange l0.length).toArray
  have hd : d.size = l0.length := by simp [d]
  have h1 : OneCell enc := fun i => by
    obtain ⟨A, c, e, _⟩ := hrow i
    show (inner[i.1]'(by omega)).oneCell' = true
    rw [e]; rfl
  have hO : Go.Sort.SWO (ltOf cf) := ⟨fun i => by simp [ltOf, cf, cmpL_self], fun i j k a b => by simp only [ltOf, cf, decide_eq_true_eq] at *; exact cmpL_trans _ _ _ a b, fun i j k a b => by simp only [ltOf, cf, decide_eq_false_iff_not] at *; exact cmpL_ntrans _ _ _ a b⟩
  have eg := enters_of Try.func114 (by kernel_rfl) rfl
  have hcmp : CmpReads Try.prog 114 #[] enc cf g 0 d.size w := by
    intro m os dk _ i j
    obtain ⟨A1, c1, e1, r1⟩ := hrow i
    obtain ⟨A2, c2, e2, r2⟩ := hrow j
    have q1 := Kd.R_step (w1 := Go.Proofs.sortWorld enc w g 0 m dk os) r1 (fun k hk hlt => sortHeap enc w g m dk os k hlt hk.2)
    have q2 := Kd.R_step (w1 := Go.Proofs.sortWorld enc w g 0 m dk os) r2 (fun k hk hlt => sortHeap enc w g m dk os k hlt hk.2)
    have hc := slices_Compare_int_int.calls (l0[i.1].length + 1) A1 c1 l0[i.1] A2 c2 l0[j.1] (cf i j) (Go.Proofs.sortWorld enc w g 0 m dk os) (Kd.R_reads' q1).2.2 (Kd.R_reads' q1).2.1 (Kd.R_reads' q2).2.2 (Kd.R_reads' q2).2.1 (slCmp_f _ _ (by have := (Kd.R_reads' q1).2.2.2.1; omega))
    have ea : (#[enc i, enc j] ++ #[] : Array Value) = #[.slice A1 (l0[i.1]).length c1, .slice A2 (l0[j.1]).length c2] := by
      show #[enc i, enc j] = _
      rw [show enc i = _ from e1, show enc j = _ from e2]
    rw [ea]
    exact hc.mono fun e w' ⟨he, hw⟩ => ⟨he, hw.out⟩
  have hH : Go.Sort.Holds enc w g 0 d := by
    intro j hj
    have hj' : j < l0.length := by omega
    have e1 : d[j]! = (⟨j, hj'⟩ : Fin l0.length) := by
      rw [getElem!_pos _ j hj]
      simp [d]
    have hcell := hown.cells (g := g) rfl j _ (List.getElem?_eq_getElem (show j < inner.length by omega))
    refine ⟨?_, by simp [World.frozen?, hgb]⟩
    rw [e1, Nat.zero_add]
    rwa [add_plain] at hcell
  have hcon := Any.slices_SortFunc laysSF enc h1 cf hO 114 #[] g 0 cap d w eg hcmp.lays hH hgl (by omega)
  change Calls Try.prog 113 _ _ _ at hcon
  rw [hd] at hcon
  refine hcon.mono ?_
  rintro e w' ⟨rfl, d', n, os, hp, hs, rfl⟩
  have hpw := risingB_pw l0 hris
  have hT : ∀ x y, (ltOf cf) x y = false → (ltOf cf) y x = false → x = y := by
    intro x y a b
    simp only [ltOf, cf, decide_eq_false_iff_not] at a b
    rcases Nat.lt_trichotomy x.1 y.1 with e | e | e
    · exact absurd (List.pairwise_iff_getElem.1 hpw x.1 y.1 x.2 y.2 e) a
    · exact Fin.ext e
    · exact absurd (List.pairwise_iff_getElem.1 hpw y.1 x.1 y.2 x.2 e) b
  have hdd : d' = d := by
    have hu := Go.Sort.sorted_unique_holds hO hT d d' (by rw [hd]; exact hp) (by rw [hd]; exact hs)
    have : d.toList.mergeSort (fun x y => !(ltOf cf) y x) = d.toList := by
      refine List.mergeSort_of_pairwise ?_
      simp only [d]
      rw [List.pairwise_iff_getElem]
      intro i j hi hj hij
      simp only [List.getElem_finRange, ltOf, cf, Bool.not_eq_true', decide_eq_false_iff_not]
      have hi' : i < l0.length := by simpa using hi
      have hj' : j < l0.length := by simpa using hj
      have h3 := List.pairwise_iff_getElem.1 hpw i j hi' hj' hij
      intro h4
      have h5 := cmpL_trans _ _ _ h3 (by simpa using h4)
      rw [cmpL_self] at h5
      omega
    rw [this] at hu
    exact Array.toList_inj.1 hu
  have hww : Go.Proofs.sortWorld enc w g 0 n d' os = Go.Sort.grow (Go.Sort.ahead w n) os := by
    rw [hdd]
    show Go.Sort.grow (Go.Sort.putRow enc (Go.Sort.ahead w n) g 0 d) os = _
    rw [Go.Sort.putRow_self enc (Go.Sort.ahead w n) g 0 d (fun j hj => hH j hj)]
  rw [hww]
  have hbw : Below w.heap.size w (Go.Sort.grow (Go.Sort.ahead w n) os) := ⟨rfl, rfl, rfl, by simp, fun k hk => by rw [Go.Sort.heap_grow_old _ _ (by simpa using hk)]; rfl⟩
  exact ⟨rfl, Kd.S_mono (Kd.S_below ho0 hbw) (fun _ hk => .inl hk), below_then hB hB.size hbw, Kept.of_below hbw _⟩

end Go.Proofs.Ytmjodkckffmnaaa.P
