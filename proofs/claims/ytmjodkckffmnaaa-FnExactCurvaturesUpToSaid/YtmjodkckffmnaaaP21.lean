/- Written by a program of this session: for Go functions that a statement reaches, Lean functions with the same answers and the proofs that the calls come to them; conditions: none but the arguments' kinds. -/
import Derived.Test.YtmjodkckffmnaaaP0
import Derived.Test.YtmjodkckffmnaaaP1
import Derived.Test.YtmjodkckffmnaaaP3
import Derived.Test.YtmjodkckffmnaaaP13
import Derived.Test.YtmjodkckffmnaaaP14
namespace Go.Proofs.Ytmjodkckffmnaaa.P
open Go.RowKit Go.Proofs.YtmjodkckffmnaaaW.PrintWords Go.Proofs.YtmjodkckffmnaaaW.PrintLast Go.Proofs.YtmjodkckffmnaaaW.PrintMore
attribute [local go_sem] max2_int min2_int max_two min_two max_three min_three max_four min_four   -- for this text's walks alone
set_option linter.unusedVariables false
set_option linter.unusedSimpArgs false

/-! ### slices_Index_int_int: function 104 -/
def slices_Index_int_int.l0 : Nat → List Int → Int → Int → Int → Option (Int)
  | 0, _, _, _, _ => none
  | k + 1, x0, x1, x7, x8 => if x8 < x7 then (if 0 ≤ x8 then (if x8 < (x0.length : Int) then (if x1 = (rd x0 x8) then (some x8) else (slices_Index_int_int.l0 k x0 x1 x7 (wrap64 (x8 + 1)))) else (none)) else (none)) else (some (-1))
def slices_Index_int_int.f (k : Nat) (l0 : List Int) (a1 : Int) : Option (Int) := slices_Index_int_int.l0 k l0 a1 (l0.length : Int) 0
theorem slices_Index_int_int.mono_l : ∀ k, (∀ y0 y1 y2 y3, LeO (slices_Index_int_int.l0 k y0 y1 y2 y3) (slices_Index_int_int.l0 (k + 1) y0 y1 y2 y3))
  | 0 => fun _ _ _ _ r h => by simp [slices_Index_int_int.l0] at h
  | k + 1 => by
    have ih0 := slices_Index_int_int.mono_l k
    · intro y0 y1 y2 y3
      unfold slices_Index_int_int.l0
      repeat' first
      | (with_reducible exact ih0 _ _ _ _)
      | (with_reducible exact LeO.refl _)
      | (with_reducible exact LeO.none _)
      | (with_reducible refine LeO.ite ?_ ?_)
      | (with_reducible refine LeO.bind ?_ (fun _ => ?_))
      | exact ih0 _ _ _ _
      | exact LeO.none _
      | refine LeO.ite ?_ ?_
      | refine LeO.bind ?_ (fun _ => ?_)
theorem slices_Index_int_int.mono : ∀ a0 a1 k, LeO (slices_Index_int_int.f k a0 a1) (slices_Index_int_int.f (k + 1) a0 a1) := by
  intro a0 a1 k
  have ih0 := slices_Index_int_int.mono_l k
  unfold slices_Index_int_int.f
  repeat' first
      | (with_reducible exact ih0 _ _ _ _)
      | (with_reducible exact LeO.refl _)
      | (with_reducible exact LeO.none _)
      | (with_reducible refine LeO.ite ?_ ?_)
      | (with_reducible refine LeO.bind ?_ (fun _ => ?_))
      | exact ih0 _ _ _ _
      | exact LeO.none _
      | refine LeO.ite ?_ ?_
      | refine LeO.bind ?_ (fun _ => ?_)
set_option maxHeartbeats 8000000 in
set_option maxRecDepth 100000 in
theorem slices_Index_int_int.calls (k : Nat) (A0 : Option Addr) (c0 : Nat) (l0 : List Int) (a1 : Int) (r : Int) (w : World) (hr0 : Kd.C (Kd.int .i64) w A0 l0.length l0) (hc0 : l0.length ≤ c0) (h : slices_Index_int_int.f k l0 a1 = some r) :
    Calls Try.prog 104 #[.slice A0 l0.length c0, .int .i64 a1] w fun e w' => e = .returned (.int .i64 r) ∧ Drawn0 w w' := by
  have HR0 := Aside0.mk hr0
  have HC0 := Aside0.mk hc0
  clear hr0 hc0
  have H : (slices_Index_int_int.l0 k l0 a1 (l0.length : Int) 0) = some r := h
  clear h
  have H' := Aside0.mk H
  clear H
  go_enter Try.func104, Try.ntmps104
  go_wp2
  go_loopg [8] k (fun kq v8 w' => ∃ (x8_1 : Int), v8 = .int .i64 x8_1 ∧ Aside0 (slices_Index_int_int.l0 kq l0 a1 (l0.length : Int) x8_1 = some r) ∧ Aside0 (kq ≤ k) ∧ Drawn0 w w')
  case atStart => exact ⟨(0), (by first | rfl | (simp; done) | (simp [*]; done)), H', ⟨Nat.le_refl _⟩, by repeat (first | exact Drawn0.refl _ | apply Drawn0.step)⟩
  case round =>
    clear H'
    try clear c1
    try clear p2
    obtain ⟨x8_1, rfl, HA, HK1, ⟨m1, rfl⟩⟩ := hrel
    cases gk with
    | zero => exact absurd HA.out (by simp [slices_Index_int_int.l0])
    | succ k1 =>
      have H := HA.out
      clear HA
      simp only [slices_Index_int_int.l0] at H
      by_cases c3 : x8_1 < (l0.length : Int)
      · rw [if_pos c3] at H
        have c3b0 : decide (x8_1 < (l0.length : Int)) = true := decide_eq_true c3
        clear c3
        by_cases c4 : 0 ≤ x8_1
        · rw [if_pos c4] at H
          have c4b0 : decide (0 ≤ x8_1) = true := decide_eq_true c4
          clear c4
          by_cases c5 : x8_1 < (l0.length : Int)
          · rw [if_pos c5] at H
            have c5b0 : decide (x8_1 < (l0.length : Int)) = true := decide_eq_true c5
            clear c5
            by_cases c6 : a1 = (rd l0 x8_1)
            · rw [if_pos c6] at H
              have c6b0 : (a1 == (rd l0 x8_1)) = true := beq_iff_eq.mpr c6
              have c6b1 : (a1 != (rd l0 x8_1)) = false := bne_eq_false_iff_eq.mpr c6
              clear c6
              obtain rfl := Option.some.inj H
              have p415 : 0 ≤ (x8_1 : Int) := of_decide_eq_true (by first | (with_reducible assumption) | assumption)
              have q415 : x8_1 < (l0.length : Int) := of_decide_eq_true (by first | (with_reducible assumption) | assumption)
              obtain ⟨ad415, e415, hx415_0⟩ := Kd.at_int HR0.out x8_1 p415 q415
              cases e415
              replace p415 := eq_true p415
              replace q415 := eq_true q415
              go_wp2
              go_ret
              exact ⟨by first | rfl | (simp; done) | (simp [*]; done), by repeat (first | exact Drawn0.refl _ | apply Drawn0.step)⟩
            · rw [if_neg c6] at H
              have c6b0 : (a1 == (rd l0 x8_1)) = false := beq_eq_false_iff_ne.mpr c6
              have c6b1 : (a1 != (rd l0 x8_1)) = true := bne_iff_ne.mpr c6
              have H' := Aside0.mk H
              clear H
              have p415 : 0 ≤ (x8_1 : Int) := of_decide_eq_true (by first | (with_reducible assumption) | assumption)
              have q415 : x8_1 < (l0.length : Int) := of_decide_eq_true (by first | (with_reducible assumption) | assumption)
              obtain ⟨ad415, e415, hx415_0⟩ := Kd.at_int HR0.out x8_1 p415 q415
              cases e415
              replace p415 := eq_true p415
              replace q415 := eq_true q415
              go_wp2
              go_roundg k1
              case measure => have := HK1.out; omega
              case rel => exact ⟨(wrap64 (x8_1 + 1)), (by first | rfl | (simp; done) | (simp [*]; done)), H', ⟨by have := HK1.out; omega⟩, by repeat (first | exact Drawn0.refl _ | apply Drawn0.step)⟩
          · rw [if_neg c5] at H
            exact absurd H (by simp)
        · rw [if_neg c4] at H
          exact absurd H (by simp)
      · rw [if_neg c3] at H
        have c3b0 : decide (x8_1 < (l0.length : Int)) = false := decide_eq_false c3
        clear c3
        obtain rfl := Option.some.inj H
        go_wp2
        go_ret
        exact ⟨by first | rfl | (simp; done) | (simp [*]; done), by repeat (first | exact Drawn0.refl _ | apply Drawn0.step)⟩

/-! ### slices_Max_int_int: function 105 -/
def slices_Max_int_int.f (l0 : List Int) : Option Int := match l0 with
  | [] => none
  | x :: xs => some (xs.foldl max x)
set_option maxHeartbeats 4000000 in
theorem slices_Max_int_int.calls (A0 : Option Addr) (c0 : Nat) (l0 : List Int) (r : Int) (w : World) (hr0 : Kd.C (Kd.int .i64) w A0 l0.length l0) (hc0 : l0.length ≤ c0) (h : slices_Max_int_int.f l0 = some r) :
    Calls Try.prog 105 #[.slice A0 l0.length c0] w fun e w' => e = .returned (.int .i64 r) ∧ Drawn0 w w' := by
  obtain ⟨x, xs, rfl, hr⟩ : ∃ x xs, l0 = x :: xs ∧ r = xs.foldl max x := by
    cases l0 with
    | nil => simp [slices_Max_int_int.f] at h
    | cons x xs => exact ⟨x, xs, rfl, (Option.some.inj h).symm⟩
  subst hr
  clear h
  have HR0 := Aside0.mk hr0
  have hmx : (x :: xs).length ≤ 9223372036854775807 := hr0.2.1
  have hst : ∀ kk : Nat, kk < xs.length → (xs.take (kk + 1)).foldl max x = max ((xs.take kk).foldl max x) (rd (x :: xs) ((kk : Int) + 1)) := by
    intro kk hk
    rw [List.take_succ_eq_append_getElem hk, List.foldl_append]
    simp [rd, List.getD_eq_getElem?_getD, show ((kk : Int) + 1).toNat = kk + 1 by omega, List.getElem?_eq_getElem hk]
  have HST := Aside0.mk hst
  have hal : (xs.take xs.length).foldl max x = xs.foldl max x := by rw [List.take_length]
  have HAL := Aside0.mk hal
  obtain ⟨ad0, e0, hcell0⟩ := Kd.at_int hr0 (0 : Int) (by omega) (by simp only [List.length_cons]; omega)
  have hx0 : rd (x :: xs) 0 = x := rfl
  rw [hx0] at hcell0
  replace hcell0 : w.cell? ad0 = some (.int .i64 x) := hcell0
  cases e0
  clear hr0 hst hal
  have hne : ¬ (((x :: xs).length : Int) < 1) := by simp only [List.length_cons]; omega
  have hpos : (0 : Int) < (((x :: xs).length : Nat) : Int) := by simp only [List.length_cons]; omega
  generalize hn : (x :: xs).length = n at *
  have HN := Aside0.mk (show n = xs.length + 1 by simpa using hn.symm)
  have hneb : decide ((n : Int) < 1) = false := decide_eq_false hne
  clear hn hx0 hc0
  go_enter Try.func105, Try.ntmps105
  go_wp2
  go_loopg [3, 4] n (fun gg s3 s4 wr => ∃ (ix m : Int) (kk q : Nat), Aside0 (ix = (kk : Int) + 1 ∧ m = (xs.take kk).foldl max x ∧ kk ≤ xs.length ∧ xs.length - kk < gg) ∧ s4 = .int .i64 ix ∧ s3 = .int .i64 m ∧ wr = w.drewN q)
  case atStart =>
    have hn' := HN.out
    exact ⟨1, x, 0, 0, ⟨by omega, rfl, Nat.zero_le _, by omega⟩, rfl, rfl, rfl⟩
  case round =>
    obtain ⟨ix, m, kk, q, hA, rfl, rfl, rfl⟩ := hrel
    by_cases hlt : kk < xs.length
    · obtain ⟨hix, hm, hkk, hg⟩ := hA.out
      have hn' := HN.out
      have hltz : ix < (n : Int) := by omega
      have hz : 0 ≤ ix := by omega
      have hup : ix + 1 ≤ 9223372036854775807 := by omega
      obtain ⟨ad, e1, hcell⟩ := Kd.at_int HR0.out ix hz hltz
      cases e1
      have hs := Aside0.mk (HST.out kk hlt)
      rw [← hix, ← hm] at hs
      generalize rd (x :: xs) ix = y at hcell hs
      by_cases hc : m < y
      · have hs' := Aside0.mk (hs.out.trans (show max m y = y by rw [Int.max_def]; split <;> omega))
        clear hs
        clear hn' hm hix hkk hg
        go_wp2
        go_roundg (n - (kk + 1))
        case measure =>
          have hn' := HN.out
          have h4 := hA.out.2.2.2
          omega
        case rel =>
          have hn' := HN.out
          have h1 := hA.out.1
          exact ⟨ix + 1, _, kk + 1, _, ⟨by omega, hs'.out.symm, by omega, by omega⟩, by first | rfl | go_num, rfl, rfl⟩
      · have hs' := Aside0.mk (hs.out.trans (show max m y = m by rw [Int.max_def]; split <;> omega))
        clear hs
        clear hn' hm hix hkk hg
        go_wp2
        go_roundg (n - (kk + 1))
        case measure =>
          have hn' := HN.out
          have h4 := hA.out.2.2.2
          omega
        case rel =>
          have hn' := HN.out
          have h1 := hA.out.1
          exact ⟨ix + 1, _, kk + 1, _, ⟨by omega, hs'.out.symm, by omega, by omega⟩, by first | rfl | go_num, rfl, rfl⟩
    · obtain ⟨hix, hm, hkk, hg⟩ := hA.out
      have hn' := HN.out
      have hltz : ¬ ix < (n : Int) := by omega
      obtain rfl : kk = xs.length := by omega
      have HAL' := Aside0.mk (hm.trans HAL.out)
      clear hn' hm hix hkk hg
      go_wp2
      go_ret
      exact ⟨by rw [← HAL'.out]; rfl, by repeat (first | exact Drawn0.refl _ | apply Drawn0.step)⟩

/-! ### impl_greatest: function 81 -/
def impl_greatest.f (k : Nat) (l0 : List Int) : Option (Int) := (slices_Max_int_int.f l0).bind fun t416 => ((slices_Index_int_int.f k l0 t416).bind fun t417 => (some t417))
theorem impl_greatest.mono : ∀ a0 k, LeO (impl_greatest.f k a0) (impl_greatest.f (k + 1) a0) := by
  intro a0 k
  unfold impl_greatest.f
  repeat' first
      | (with_reducible exact slices_Index_int_int.mono _ _ _)
      | (with_reducible exact LeO.refl _)
      | (with_reducible exact LeO.none _)
      | (with_reducible refine LeO.ite ?_ ?_)
      | (with_reducible refine LeO.bind ?_ (fun _ => ?_))
      | exact slices_Index_int_int.mono _ _ _
      | exact LeO.none _
      | refine LeO.ite ?_ ?_
      | refine LeO.bind ?_ (fun _ => ?_)
set_option maxHeartbeats 8000000 in
set_option maxRecDepth 100000 in
theorem impl_greatest.calls (k : Nat) (A0 : Option Addr) (c0 : Nat) (l0 : List Int) (r : Int) (w : World) (hr0 : Kd.C (Kd.int .i64) w A0 l0.length l0) (hc0 : l0.length ≤ c0) (h : impl_greatest.f k l0 = some r) :
    Calls Try.prog 81 #[.slice A0 l0.length c0] w fun e w' => e = .returned (.int .i64 r) ∧ Drawn0 w w' := by
  have HR0 := Aside0.mk hr0
  have HC0 := Aside0.mk hc0
  clear hr0 hc0
  have H : ((slices_Max_int_int.f l0).bind fun t416 => ((slices_Index_int_int.f k l0 t416).bind fun t417 => (some t417))) = some r := h
  clear h
  replace H := Option.bind_eq_some_iff.mp H
  obtain ⟨t416, A20, H⟩ := H
  replace H : ((slices_Index_int_int.f k l0 t416).bind fun t417 => (some t417)) = some r := H
  have A2 := Aside0.mk A20
  clear A20
  replace H := Option.bind_eq_some_iff.mp H
  obtain ⟨t417, A30, H⟩ := H
  replace H : (some t417) = some r := H
  have A3 := Aside0.mk A30
  clear A30
  obtain rfl := Option.some.inj H
  go_enter Try.func81, Try.ntmps81
  go_wp2_with (first | ((with_reducible refine gate_callee (f := 105) rfl ?_); refine goesL_ (some 5) rfl rfl Try.func105 (by kernel_rfl) rfl #[.slice A0 l0.length c0] rfl (by (try simp only [List.map_toArray, List.map_cons, List.map_nil]); first | done | rfl | (simp only [List.length_drop, List.length_take]; rfl)) ?_; (with_reducible refine (slices_Max_int_int.calls _ _ l0 t416 _ ?side1 ?side2 A2.out).mono ?_); (case side1 => repeat (first | exact HR0.out | (with_reducible refine Kd.C_alloc ?_ _) | (with_reducible refine Kd.C_drewN ?_ _) | (with_reducible refine Kd.C_drew ?_))); (case side2 => exact HC0.out); rintro e w' ⟨rfl, ⟨nd, rfl⟩⟩; refine ⟨_, rfl, ?_⟩) | ((with_reducible refine gate_callee (f := 104) rfl ?_); refine goesL_ (some 6) rfl rfl Try.func104 (by kernel_rfl) rfl #[.slice A0 l0.length c0, .int .i64 t416] rfl (by (try simp only [List.map_toArray, List.map_cons, List.map_nil]); first | done | rfl | (simp only [List.length_drop, List.length_take]; rfl)) ?_; (with_reducible refine (slices_Index_int_int.calls k _ _ l0 t416 t417 _ ?side1 ?side2 A3.out).mono ?_); (case side1 => repeat (first | exact HR0.out | (with_reducible refine Kd.C_alloc ?_ _) | (with_reducible refine Kd.C_drewN ?_ _) | (with_reducible refine Kd.C_drew ?_))); (case side2 => exact HC0.out); rintro e w' ⟨rfl, ⟨nd, rfl⟩⟩; refine ⟨_, rfl, ?_⟩))
  go_ret
  exact ⟨by first | rfl | (simp; done) | (simp [*]; done), by repeat (first | exact Drawn0.refl _ | apply Drawn0.step)⟩

end Go.Proofs.Ytmjodkckffmnaaa.P
