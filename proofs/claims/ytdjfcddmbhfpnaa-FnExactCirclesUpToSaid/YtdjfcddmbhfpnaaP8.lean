/- Written by a program of this session: for Go functions that a statement reaches, Lean functions with the same answers and the proofs that the calls come to them; conditions: none but the arguments' kinds. -/
import Derived.Test.YtdjfcddmbhfpnaaP0
import Derived.Test.YtdjfcddmbhfpnaaP1
import Derived.Test.YtdjfcddmbhfpnaaP2
import Derived.Test.YtdjfcddmbhfpnaaP3
import Derived.Test.YtdjfcddmbhfpnaaP5
import Derived.Test.YtdjfcddmbhfpnaaP6
import Derived.Test.YtdjfcddmbhfpnaaP7
namespace Go.Proofs.Ytdjfcddmbhfpnaa.P
open Go.RowKit Go.Proofs.YtdjfcddmbhfpnaaW.PrintWords Go.Proofs.YtdjfcddmbhfpnaaW.PrintLast Go.Proofs.YtdjfcddmbhfpnaaW.PrintMore
attribute [local go_sem] max2_int min2_int max_two min_two max_three min_three max_four min_four   -- for this text's walks alone
set_option linter.unusedVariables false
set_option linter.unusedSimpArgs false

/-! ### spec_CirclesUpTo: function 5 -/
mutual
def spec_CirclesUpTo.j0 : Nat → List (S39) → Int → Bool → Option ((List (S39)) × Bool)
  | 0, _, _, _ => none
  | k + 1, x0, x1, x21 => if x21 = true then (some (([] : List (S39)), false)) else ((spec_ciCurvatures.f k x0).bind fun t204 => ((spec_apGood.f k t204).bind fun t207 => (if t207 = true then ((spec_apDown.f k t204).bind fun t208 => (if t208 ≥ 0 then (spec_CirclesUpTo.j1 k x0 x1 true) else ((spec_apSorted.f k t204).bind fun t209 => (if 0 < (t209.length : Int) then (spec_CirclesUpTo.j1 k x0 x1 (decide ((rd t209 0) ≥ 0))) else (none))))) else (spec_CirclesUpTo.j1 k x0 x1 true))))
def spec_CirclesUpTo.j1 : Nat → List (S39) → Int → Bool → Option ((List (S39)) × Bool)
  | 0, _, _, _ => none
  | k + 1, x0, x1, x38 => if x38 = true then (some (([] : List (S39)), false)) else (spec_CirclesUpTo.l0 k x0 x1 ([] : List (S39)) x0 (x0.length : Int) 0)
def spec_CirclesUpTo.l0 : Nat → List (S39) → Int → List (S39) → List (S39) → Int → Int → Option ((List (S39)) × Bool)
  | 0, _, _, _, _, _, _ => none
  | k + 1, x0, x1, x7, x39, x40, x41 => if x41 < x40 then (if 0 ≤ x41 then (if x41 < (x39.length : Int) then (if ((rd_T39 x39 x41).f1) ≤ x1 then (if x7.length < 4398046511104 then (spec_CirclesUpTo.l0 k x0 x1 (x7 ++ [(⟨(rd_T39 x39 x41).f0, (rd_T39 x39 x41).f1, (rd_T39 x39 x41).f2, (rd_T39 x39 x41).f3⟩ : S39)]) x39 x40 (wrap64 (x41 + 1))) else (none)) else (spec_CirclesUpTo.l0 k x0 x1 x7 x39 x40 (wrap64 (x41 + 1)))) else (none)) else (none)) else (spec_CirclesUpTo.l1 k x1 x7 (([(⟨x0, (-1)⟩ : S41)] : List (S41))) 0)
def spec_CirclesUpTo.l1 : Nat → Int → List (S39) → List (S41) → Int → Option ((List (S39)) × Bool)
  | 0, _, _, _, _ => none
  | k + 1, x1, x7, x10, x11 => if x11 < (x10.length : Int) then (spec_CirclesUpTo.l2 k x1 x7 x10 x11 0) else (some (x7, true))
def spec_CirclesUpTo.l2 : Nat → Int → List (S39) → List (S41) → Int → Int → Option ((List (S39)) × Bool)
  | 0, _, _, _, _, _ => none
  | k + 1, x1, x7, x10, x11, x12 => if x12 < 4 then (if 0 ≤ x11 then (if x11 < (x10.length : Int) then (if x12 = ((rd_T41 x10 x11).f1) then (spec_CirclesUpTo.l2 k x1 x7 x10 x11 (wrap64 (x12 + 1))) else ((spec_ciSwap.f k ((rd_T41 x10 x11).f0) x12).bind fun t223 => (if 0 ≤ x12 then (if x12 < (t223.length : Int) then (if ((rd_T39 t223 x12).f1) > x1 then (spec_CirclesUpTo.l2 k x1 x7 x10 x11 (wrap64 (x12 + 1))) else ((spec_ciGood.f k ((rd_T39 t223 x12).f0) ((rd_T39 t223 x12).f1) ((rd_T39 t223 x12).f2) ((rd_T39 t223 x12).f3)).bind fun t228 => (if t228 = true then (if (x7.length : Int) = 300 then (some (([] : List (S39)), false)) else (if x7.length < 4398046511104 then (if x10.length < 4398046511104 then (spec_CirclesUpTo.l2 k x1 (x7 ++ [(⟨(rd_T39 t223 x12).f0, (rd_T39 t223 x12).f1, (rd_T39 t223 x12).f2, (rd_T39 t223 x12).f3⟩ : S39)]) (x10 ++ [(⟨t223, x12⟩ : S41)]) x11 (wrap64 (x12 + 1))) else (none)) else (none))) else (some (([] : List (S39)), false))))) else (none)) else (none)))) else (none)) else (none)) else (spec_CirclesUpTo.l1 k x1 x7 x10 (wrap64 (x11 + 1)))
end
def spec_CirclesUpTo.f (k : Nat) (l0 : List (S39)) (a1 : Int) : Option ((List (S39)) × Bool) := (spec_ciConfig.f k l0).bind fun t202 => (if t202 = true then ((spec_l1In.f a1 1 60).bind fun t203 => (spec_CirclesUpTo.j0 k l0 a1 (!t203))) else (spec_CirclesUpTo.j0 k l0 a1 true))
theorem spec_CirclesUpTo.mono_l : ∀ k, (∀ y0 y1 y2, LeO (spec_CirclesUpTo.j0 k y0 y1 y2) (spec_CirclesUpTo.j0 (k + 1) y0 y1 y2)) ∧ (∀ y0 y1 y2, LeO (spec_CirclesUpTo.j1 k y0 y1 y2) (spec_CirclesUpTo.j1 (k + 1) y0 y1 y2)) ∧ (∀ y0 y1 y2 y3 y4 y5, LeO (spec_CirclesUpTo.l0 k y0 y1 y2 y3 y4 y5) (spec_CirclesUpTo.l0 (k + 1) y0 y1 y2 y3 y4 y5)) ∧ (∀ y0 y1 y2 y3, LeO (spec_CirclesUpTo.l1 k y0 y1 y2 y3) (spec_CirclesUpTo.l1 (k + 1) y0 y1 y2 y3)) ∧ (∀ y0 y1 y2 y3 y4, LeO (spec_CirclesUpTo.l2 k y0 y1 y2 y3 y4) (spec_CirclesUpTo.l2 (k + 1) y0 y1 y2 y3 y4))
  | 0 => ⟨fun _ _ _ r h => by simp [spec_CirclesUpTo.j0] at h, fun _ _ _ r h => by simp [spec_CirclesUpTo.j1] at h, fun _ _ _ _ _ _ r h => by simp [spec_CirclesUpTo.l0] at h, fun _ _ _ _ r h => by simp [spec_CirclesUpTo.l1] at h, fun _ _ _ _ _ r h => by simp [spec_CirclesUpTo.l2] at h⟩
  | k + 1 => by
    obtain ⟨ih0, ih1, ih2, ih3, ih4⟩ := spec_CirclesUpTo.mono_l k
    refine ⟨?_, ?_, ?_, ?_, ?_⟩
    · intro y0 y1 y2
      unfold spec_CirclesUpTo.j0
      repeat' first
      | (with_reducible exact ih0 _ _ _)
      | (with_reducible exact ih1 _ _ _)
      | (with_reducible exact ih2 _ _ _ _ _ _)
      | (with_reducible exact ih3 _ _ _ _)
      | (with_reducible exact ih4 _ _ _ _ _)
      | (with_reducible exact spec_apDown.mono _ _)
      | (with_reducible exact spec_apGood.mono _ _)
      | (with_reducible exact spec_apSorted.mono _ _)
      | (with_reducible exact spec_ciConfig.mono _ _)
      | (with_reducible exact spec_ciCurvatures.mono _ _)
      | (with_reducible exact spec_ciGood.mono _ _ _ _ _)
      | (with_reducible exact spec_ciSwap.mono _ _ _)
      | (with_reducible exact LeO.refl _)
      | (with_reducible exact LeO.none _)
      | (with_reducible refine LeO.ite ?_ ?_)
      | (with_reducible refine LeO.bind ?_ (fun _ => ?_))
      | exact ih0 _ _ _
      | exact ih1 _ _ _
      | exact ih2 _ _ _ _ _ _
      | exact ih3 _ _ _ _
      | exact ih4 _ _ _ _ _
      | exact spec_apDown.mono _ _
      | exact spec_apGood.mono _ _
      | exact spec_apSorted.mono _ _
      | exact spec_ciConfig.mono _ _
      | exact spec_ciCurvatures.mono _ _
      | exact spec_ciGood.mono _ _ _ _ _
      | exact spec_ciSwap.mono _ _ _
      | exact LeO.none _
      | refine LeO.ite ?_ ?_
      | refine LeO.bind ?_ (fun _ => ?_)
    · intro y0 y1 y2
      unfold spec_CirclesUpTo.j1
      repeat' first
      | (with_reducible exact ih0 _ _ _)
      | (with_reducible exact ih1 _ _ _)
      | (with_reducible exact ih2 _ _ _ _ _ _)
      | (with_reducible exact ih3 _ _ _ _)
      | (with_reducible exact ih4 _ _ _ _ _)
      | (with_reducible exact spec_apDown.mono _ _)
      | (with_reducible exact spec_apGood.mono _ _)
      | (with_reducible exact spec_apSorted.mono _ _)
      | (with_reducible exact spec_ciConfig.mono _ _)
      | (with_reducible exact spec_ciCurvatures.mono _ _)
      | (with_reducible exact spec_ciGood.mono _ _ _ _ _)
      | (with_reducible exact spec_ciSwap.mono _ _ _)
      | (with_reducible exact LeO.refl _)
      | (with_reducible exact LeO.none _)
      | (with_reducible refine LeO.ite ?_ ?_)
      | (with_reducible refine LeO.bind ?_ (fun _ => ?_))
      | exact ih0 _ _ _
      | exact ih1 _ _ _
      | exact ih2 _ _ _ _ _ _
      | exact ih3 _ _ _ _
      | exact ih4 _ _ _ _ _
      | exact spec_apDown.mono _ _
      | exact spec_apGood.mono _ _
      | exact spec_apSorted.mono _ _
      | exact spec_ciConfig.mono _ _
      | exact spec_ciCurvatures.mono _ _
      | exact spec_ciGood.mono _ _ _ _ _
      | exact spec_ciSwap.mono _ _ _
      | exact LeO.none _
      | refine LeO.ite ?_ ?_
      | refine LeO.bind ?_ (fun _ => ?_)
    · intro y0 y1 y2 y3 y4 y5
      unfold spec_CirclesUpTo.l0
      repeat' first
      | (with_reducible exact ih0 _ _ _)
      | (with_reducible exact ih1 _ _ _)
      | (with_reducible exact ih2 _ _ _ _ _ _)
      | (with_reducible exact ih3 _ _ _ _)
      | (with_reducible exact ih4 _ _ _ _ _)
      | (with_reducible exact spec_apDown.mono _ _)
      | (with_reducible exact spec_apGood.mono _ _)
      | (with_reducible exact spec_apSorted.mono _ _)
      | (with_reducible exact spec_ciConfig.mono _ _)
      | (with_reducible exact spec_ciCurvatures.mono _ _)
      | (with_reducible exact spec_ciGood.mono _ _ _ _ _)
      | (with_reducible exact spec_ciSwap.mono _ _ _)
      | (with_reducible exact LeO.refl _)
      | (with_reducible exact LeO.none _)
      | (with_reducible refine LeO.ite ?_ ?_)
      | (with_reducible refine LeO.bind ?_ (fun _ => ?_))
      | exact ih0 _ _ _
      | exact ih1 _ _ _
      | exact ih2 _ _ _ _ _ _
      | exact ih3 _ _ _ _
      | exact ih4 _ _ _ _ _
      | exact spec_apDown.mono _ _
      | exact spec_apGood.mono _ _
      | exact spec_apSorted.mono _ _
      | exact spec_ciConfig.mono _ _
      | exact spec_ciCurvatures.mono _ _
      | exact spec_ciGood.mono _ _ _ _ _
      | exact spec_ciSwap.mono _ _ _
      | exact LeO.none _
      | refine LeO.ite ?_ ?_
      | refine LeO.bind ?_ (fun _ => ?_)
    · intro y0 y1 y2 y3
      unfold spec_CirclesUpTo.l1
      repeat' first
      | (with_reducible exact ih0 _ _ _)
      | (with_reducible exact ih1 _ _ _)
      | (with_reducible exact ih2 _ _ _ _ _ _)
      | (with_reducible exact ih3 _ _ _ _)
      | (with_reducible exact ih4 _ _ _ _ _)
      | (with_reducible exact spec_apDown.mono _ _)
      | (with_reducible exact spec_apGood.mono _ _)
      | (with_reducible exact spec_apSorted.mono _ _)
      | (with_reducible exact spec_ciConfig.mono _ _)
      | (with_reducible exact spec_ciCurvatures.mono _ _)
      | (with_reducible exact spec_ciGood.mono _ _ _ _ _)
      | (with_reducible exact spec_ciSwap.mono _ _ _)
      | (with_reducible exact LeO.refl _)
      | (with_reducible exact LeO.none _)
      | (with_reducible refine LeO.ite ?_ ?_)
      | (with_reducible refine LeO.bind ?_ (fun _ => ?_))
      | exact ih0 _ _ _
      | exact ih1 _ _ _
      | exact ih2 _ _ _ _ _ _
      | exact ih3 _ _ _ _
      | exact ih4 _ _ _ _ _
      | exact spec_apDown.mono _ _
      | exact spec_apGood.mono _ _
      | exact spec_apSorted.mono _ _
      | exact spec_ciConfig.mono _ _
      | exact spec_ciCurvatures.mono _ _
      | exact spec_ciGood.mono _ _ _ _ _
      | exact spec_ciSwap.mono _ _ _
      | exact LeO.none _
      | refine LeO.ite ?_ ?_
      | refine LeO.bind ?_ (fun _ => ?_)
    · intro y0 y1 y2 y3 y4
      unfold spec_CirclesUpTo.l2
      repeat' first
      | (with_reducible exact ih0 _ _ _)
      | (with_reducible exact ih1 _ _ _)
      | (with_reducible exact ih2 _ _ _ _ _ _)
      | (with_reducible exact ih3 _ _ _ _)
      | (with_reducible exact ih4 _ _ _ _ _)
      | (with_reducible exact spec_apDown.mono _ _)
      | (with_reducible exact spec_apGood.mono _ _)
      | (with_reducible exact spec_apSorted.mono _ _)
      | (with_reducible exact spec_ciConfig.mono _ _)
      | (with_reducible exact spec_ciCurvatures.mono _ _)
      | (with_reducible exact spec_ciGood.mono _ _ _ _ _)
      | (with_reducible exact spec_ciSwap.mono _ _ _)
      | (with_reducible exact LeO.refl _)
      | (with_reducible exact LeO.none _)
      | (with_reducible refine LeO.ite ?_ ?_)
      | (with_reducible refine LeO.bind ?_ (fun _ => ?_))
      | exact ih0 _ _ _
      | exact ih1 _ _ _
      | exact ih2 _ _ _ _ _ _
      | exact ih3 _ _ _ _
      | exact ih4 _ _ _ _ _
      | exact spec_apDown.mono _ _
      | exact spec_apGood.mono _ _
      | exact spec_apSorted.mono _ _
      | exact spec_ciConfig.mono _ _
      | exact spec_ciCurvatures.mono _ _
      | exact spec_ciGood.mono _ _ _ _ _
      | exact spec_ciSwap.mono _ _ _
      | exact LeO.none _
      | refine LeO.ite ?_ ?_
      | refine LeO.bind ?_ (fun _ => ?_)
theorem spec_CirclesUpTo.mono : ∀ a0 a1 k, LeO (spec_CirclesUpTo.f k a0 a1) (spec_CirclesUpTo.f (k + 1) a0 a1) := by
  intro a0 a1 k
  obtain ⟨ih0, ih1, ih2, ih3, ih4⟩ := spec_CirclesUpTo.mono_l k
  unfold spec_CirclesUpTo.f
  repeat' first
      | (with_reducible exact ih0 _ _ _)
      | (with_reducible exact ih1 _ _ _)
      | (with_reducible exact ih2 _ _ _ _ _ _)
      | (with_reducible exact ih3 _ _ _ _)
      | (with_reducible exact ih4 _ _ _ _ _)
      | (with_reducible exact spec_apDown.mono _ _)
      | (with_reducible exact spec_apGood.mono _ _)
      | (with_reducible exact spec_apSorted.mono _ _)
      | (with_reducible exact spec_ciConfig.mono _ _)
      | (with_reducible exact spec_ciCurvatures.mono _ _)
      | (with_reducible exact spec_ciGood.mono _ _ _ _ _)
      | (with_reducible exact spec_ciSwap.mono _ _ _)
      | (with_reducible exact LeO.refl _)
      | (with_reducible exact LeO.none _)
      | (with_reducible refine LeO.ite ?_ ?_)
      | (with_reducible refine LeO.bind ?_ (fun _ => ?_))
      | exact ih0 _ _ _
      | exact ih1 _ _ _
      | exact ih2 _ _ _ _ _ _
      | exact ih3 _ _ _ _
      | exact ih4 _ _ _ _ _
      | exact spec_apDown.mono _ _
      | exact spec_apGood.mono _ _
      | exact spec_apSorted.mono _ _
      | exact spec_ciConfig.mono _ _
      | exact spec_ciCurvatures.mono _ _
      | exact spec_ciGood.mono _ _ _ _ _
      | exact spec_ciSwap.mono _ _ _
      | exact LeO.none _
      | refine LeO.ite ?_ ?_
      | refine LeO.bind ?_ (fun _ => ?_)
set_option maxHeartbeats 8000000 in
set_option maxRecDepth 100000 in
theorem spec_CirclesUpTo.calls (k : Nat) (P0_ : Nat → Prop) (A0 : Option Addr) (c0 : Nat) (l0 : List (S39)) (a1 : Int) (r1 : List (S39)) (r2 : Bool) (w : World) (hs0 : Kd.V k39 39 w w.heap.size (fun k_ => P0_ k_) (.slice A0 l0.length c0) l0) (h : spec_CirclesUpTo.f k l0 a1 = some (r1, r2)) :
    Calls Try.prog 5 #[.slice A0 l0.length c0, .int .i64 a1] w fun e w' => ∃ v0_ : Value, e = .returned (.tuple #[v0_, .bool r2]) ∧ Kd.R k39 39 w' w.heap.size (fun k_ => (w.heap.size ≤ k_)) v0_ r1 ∧ Below w.heap.size w w' := by
  have hu39 := Try.underlying39
  have hu41 := Try.underlying41
  have HO0 := Aside0.mk (show Kd.V k39 39 w w.heap.size (fun k_ => (P0_ k_ ∨ w.heap.size ≤ k_)) (.slice A0 l0.length c0) l0 from Kd.V_mono hs0 (fun k_ hk => .inl hk))
  have HB := Aside0.mk (Below.refl w.heap.size w)
  have H : ((spec_ciConfig.f k l0).bind fun t202 => (if t202 = true then ((spec_l1In.f a1 1 60).bind fun t203 => (spec_CirclesUpTo.j0 k l0 a1 (!t203))) else (spec_CirclesUpTo.j0 k l0 a1 true))) = some (r1, r2) := h
  clear h
  have HC3 := Aside0.mk H
  clear H
  go_enter Try.func5, Try.ntmps5
  go_upto_region 1 with (fail)
  go_cut [21] (fun v21 wc => ∃ (kq : Nat) (x21_2 : Bool), v21 = .bool x21_2 ∧ Aside0 (spec_CirclesUpTo.j0 kq l0 a1 x21_2 = some (r1, r2)) ∧ Aside0 (kq ≤ k) ∧ Aside0 (Kd.V k39 39 wc w.heap.size (fun k_ => (P0_ k_ ∨ w.heap.size ≤ k_)) (.slice A0 l0.length c0) l0) ∧ Aside0 (Below w.heap.size w wc))
  case first =>
    have H := HC3.out
    clear HC3
    replace H := Option.bind_eq_some_iff.mp H
    obtain ⟨t202, A40, H⟩ := H
    replace H : (if t202 = true then ((spec_l1In.f a1 1 60).bind fun t203 => (spec_CirclesUpTo.j0 k l0 a1 (!t203))) else (spec_CirclesUpTo.j0 k l0 a1 true)) = some (r1, r2) := H
    have A4 := Aside0.mk A40
    clear A40
    by_cases c5 : t202 = true
    · subst c5
      have H1 : ((spec_l1In.f a1 1 60).bind fun t203 => (spec_CirclesUpTo.j0 k l0 a1 (!t203))) = some (r1, r2) := by rw [if_pos rfl] at H; exact H
      clear H
      have H := H1
      clear H1
      replace H := Option.bind_eq_some_iff.mp H
      obtain ⟨t203, A60, H⟩ := H
      replace H : (spec_CirclesUpTo.j0 k l0 a1 (!t203)) = some (r1, r2) := H
      have A6 := Aside0.mk A60
      clear A60
      have H' := Aside0.mk H
      clear H
      go_wp2_with (first | ((with_reducible refine gate_callee (f := 11) rfl ?_); refine goesL_ (some 15) rfl rfl Try.func11 (by kernel_rfl) rfl #[.slice A0 l0.length c0] rfl (by (try simp only [List.map_toArray, List.map_cons, List.map_nil]); first | done | rfl | (simp only [List.length_drop, List.length_take]; rfl)) ?_; (with_reducible refine (spec_ciConfig.calls k _ _ l0 true _ ?side1 ?side2 A4.out).mono ?_); (case side1 => repeat (first | exact (Kd.V_reads' HO0.out).2.2 | (with_reducible refine Kd.C_alloc ?_ _) | (with_reducible refine Kd.C_drewN ?_ _) | (with_reducible refine Kd.C_drew ?_))); (case side2 => exact (Kd.V_reads' HO0.out).2.1); rintro e w7 ⟨rfl, hb⟩; refine ⟨_, rfl, ?_⟩; have n0_ := Aside0.mk (Kd.V_below (by (with_reducible repeat (first | apply Kd.V_alloc | apply Kd.V_drewN | apply Kd.V_drew)); exact HO0.out) hb); have n1_ := Aside0.mk (below_step (by repeat (first | (with_reducible first | exact HB.out | apply below_alloc | apply pw_below_drewN | apply below_drew1) | exact HB.out)) hb); clear HO0; clear HB; have HO0 := n0_; have HB := n1_; clear n0_ n1_; (try clear hb); (try clear hb2); (try clear hk); (try clear hi)) | (go_at_call 12; (with_reducible refine (spec_l1In.calls a1 1 60 t203 _ A6.out).mono ?_); rintro e w' ⟨rfl, ⟨nd, rfl⟩⟩))
      go_meet
      case rel => exact ⟨_, (!t203), (by first | rfl | (simp; done) | (simp [*]; done)), H', ⟨by first | omega | exact Nat.le_refl _⟩, ⟨by (with_reducible repeat (first | apply Kd.V_alloc | apply Kd.V_drewN | apply Kd.V_drew)); exact HO0.out⟩, ⟨by repeat (first | (with_reducible first | exact HB.out | apply below_alloc | apply pw_below_drewN | apply below_drew1) | exact HB.out)⟩⟩
    · replace c5 := Bool.eq_false_iff.mpr c5
      subst c5
      have H1 : (spec_CirclesUpTo.j0 k l0 a1 true) = some (r1, r2) := by rw [if_neg (show ¬ (false = true) by decide)] at H; exact H
      clear H
      have H := H1
      clear H1
      have H' := Aside0.mk H
      clear H
      go_wp2_with (first | ((with_reducible refine gate_callee (f := 11) rfl ?_); refine goesL_ (some 15) rfl rfl Try.func11 (by kernel_rfl) rfl #[.slice A0 l0.length c0] rfl (by (try simp only [List.map_toArray, List.map_cons, List.map_nil]); first | done | rfl | (simp only [List.length_drop, List.length_take]; rfl)) ?_; (with_reducible refine (spec_ciConfig.calls k _ _ l0 false _ ?side1 ?side2 A4.out).mono ?_); (case side1 => repeat (first | exact (Kd.V_reads' HO0.out).2.2 | (with_reducible refine Kd.C_alloc ?_ _) | (with_reducible refine Kd.C_drewN ?_ _) | (with_reducible refine Kd.C_drew ?_))); (case side2 => exact (Kd.V_reads' HO0.out).2.1); rintro e w8 ⟨rfl, hb⟩; refine ⟨_, rfl, ?_⟩; have n0_ := Aside0.mk (Kd.V_below (by (with_reducible repeat (first | apply Kd.V_alloc | apply Kd.V_drewN | apply Kd.V_drew)); exact HO0.out) hb); have n1_ := Aside0.mk (below_step (by repeat (first | (with_reducible first | exact HB.out | apply below_alloc | apply pw_below_drewN | apply below_drew1) | exact HB.out)) hb); clear HO0; clear HB; have HO0 := n0_; have HB := n1_; clear n0_ n1_; (try clear hb); (try clear hb2); (try clear hk); (try clear hi)))
      go_meet
      case rel => exact ⟨_, (true), (by first | rfl | (simp; done) | (simp [*]; done)), H', ⟨by first | omega | exact Nat.le_refl _⟩, ⟨by (with_reducible repeat (first | apply Kd.V_alloc | apply Kd.V_drewN | apply Kd.V_drew)); exact HO0.out⟩, ⟨by repeat (first | (with_reducible first | exact HB.out | apply below_alloc | apply pw_below_drewN | apply below_drew1) | exact HB.out)⟩⟩
  case rest =>
    clear HC3
    try clear c1
    try clear p2
    try clear c5
    obtain ⟨kq, x21_2, rfl, HA, HJ2, HO_0, HB⟩ := hcut
    cases kq with
    | zero => exact absurd HA.out (by simp [spec_CirclesUpTo.j0])
    | succ kj2 =>
      have H := HA.out
      clear HA
      simp only [spec_CirclesUpTo.j0] at H
      by_cases c9 : x21_2 = true
      · subst c9
        have H1 : (some (([] : List (S39)), false)) = some (r1, r2) := by rw [if_pos rfl] at H; exact H
        clear H
        have H := H1
        clear H1
        simp only [Option.some.injEq, Prod.mk.injEq] at H
        obtain ⟨rfl, rfl⟩ := H
        go_wp2
        go_ret2
        exact ⟨_, by first | rfl | (simp [errW_none, errW_some] <;> rfl) | (simp [*, errW_none, errW_some] <;> rfl), by first | exact Kd.R_nil _ _ _ _ _ | exact Kd.N_nil _ _ _ _ _ | exact Kd.V_nil _ _ _ _ _ | exact Kd.Q_nil _ _ _ _ _ | exact Kd.S_nil _ _ _ _ _, by repeat (first | (with_reducible first | exact HB.out | apply below_alloc | apply pw_below_drewN | apply below_drew1) | exact HB.out)⟩
      · replace c9 := Bool.eq_false_iff.mpr c9
        subst c9
        have H1 : ((spec_ciCurvatures.f kj2 l0).bind fun t204 => ((spec_apGood.f kj2 t204).bind fun t207 => (if t207 = true then ((spec_apDown.f kj2 t204).bind fun t208 => (if t208 ≥ 0 then (spec_CirclesUpTo.j1 kj2 l0 a1 true) else ((spec_apSorted.f kj2 t204).bind fun t209 => (if 0 < (t209.length : Int) then (spec_CirclesUpTo.j1 kj2 l0 a1 (decide ((rd t209 0) ≥ 0))) else (none))))) else (spec_CirclesUpTo.j1 kj2 l0 a1 true)))) = some (r1, r2) := by rw [if_neg (show ¬ (false = true) by decide)] at H; exact H
        clear H
        have H := H1
        clear H1
        replace H := Option.bind_eq_some_iff.mp H
        obtain ⟨t204, A100, H⟩ := H
        replace H : ((spec_apGood.f kj2 t204).bind fun t207 => (if t207 = true then ((spec_apDown.f kj2 t204).bind fun t208 => (if t208 ≥ 0 then (spec_CirclesUpTo.j1 kj2 l0 a1 true) else ((spec_apSorted.f kj2 t204).bind fun t209 => (if 0 < (t209.length : Int) then (spec_CirclesUpTo.j1 kj2 l0 a1 (decide ((rd t209 0) ≥ 0))) else (none))))) else (spec_CirclesUpTo.j1 kj2 l0 a1 true))) = some (r1, r2) := H
        have A10 := Aside0.mk A100
        clear A100
        have HC11 := Aside0.mk H
        clear H
        go_upto_region 4 with (first | ((with_reducible refine gate_callee (f := 13) rfl ?_); refine goesL_ (some 23) rfl rfl Try.func13 (by kernel_rfl) rfl #[.slice A0 l0.length c0] rfl (by (try simp only [List.map_toArray, List.map_cons, List.map_nil]); first | done | rfl | (simp only [List.length_drop, List.length_take]; rfl)) ?_; (with_reducible refine (spec_ciCurvatures.calls kj2 _ _ l0 t204 _ ?side1 ?side2 A10.out).mono ?_); (case side1 => repeat (first | exact (Kd.V_reads' HO_0.out).2.2 | (with_reducible refine Kd.C_alloc ?_ _) | (with_reducible refine Kd.C_drewN ?_ _) | (with_reducible refine Kd.C_drew ?_))); (case side2 => exact (Kd.V_reads' HO_0.out).2.1); rintro e w12 ⟨v205, rfl, ho0, hb⟩; refine ⟨_, rfl, ?_⟩; have n0_ := Aside0.mk (Kd.V_elder' (by (with_reducible repeat (first | apply Kd.V_alloc | apply Kd.V_drewN | apply Kd.V_drew)); exact HO_0.out) (Kd.R_base ho0) hb); have n1_ := Aside0.mk (Kd.R_lower (Kd.R_newM (M := fun k_ => (w.heap.size ≤ k_)) ho0 (below_size (by repeat (first | (with_reducible first | exact HB.out | apply below_alloc | apply pw_below_drewN | apply below_drew1) | exact HB.out))) (fun k_ h_ => h_)) (below_size (by repeat (first | (with_reducible first | exact HB.out | apply below_alloc | apply pw_below_drewN | apply below_drew1) | exact HB.out)))); have n2_ := Aside0.mk (below_step (by repeat (first | (with_reducible first | exact HB.out | apply below_alloc | apply pw_below_drewN | apply below_drew1) | exact HB.out)) hb); clear HO_0; clear HB; have HO_0 := n0_; have HO206 := n1_; have HB := n2_; clear n0_ n1_ n2_; (try clear hb); (try clear hb2); (try clear hk); (try clear hi); (try clear ho0)))
        (try simp only [Act.put, List.setIfInBounds_toArray, List.set_cons_zero, List.set_cons_succ])
        go_cut [38] (fun v38 wc => ∃ (kq : Nat) (x38_10 : Bool), v38 = .bool x38_10 ∧ Aside0 (spec_CirclesUpTo.j1 kq l0 a1 x38_10 = some (r1, r2)) ∧ Aside0 (kq ≤ kj2) ∧ Aside0 (Kd.V k39 39 wc w.heap.size (fun k_ => (P0_ k_ ∨ w.heap.size ≤ k_)) (.slice A0 l0.length c0) l0) ∧ Aside0 (Below w.heap.size w wc))
        case first =>
          have H := HC11.out
          clear HC11
          replace H := Option.bind_eq_some_iff.mp H
          obtain ⟨t207, A130, H⟩ := H
          replace H : (if t207 = true then ((spec_apDown.f kj2 t204).bind fun t208 => (if t208 ≥ 0 then (spec_CirclesUpTo.j1 kj2 l0 a1 true) else ((spec_apSorted.f kj2 t204).bind fun t209 => (if 0 < (t209.length : Int) then (spec_CirclesUpTo.j1 kj2 l0 a1 (decide ((rd t209 0) ≥ 0))) else (none))))) else (spec_CirclesUpTo.j1 kj2 l0 a1 true)) = some (r1, r2) := H
          have A13 := Aside0.mk A130
          clear A130
          by_cases c14 : t207 = true
          · subst c14
            have H1 : ((spec_apDown.f kj2 t204).bind fun t208 => (if t208 ≥ 0 then (spec_CirclesUpTo.j1 kj2 l0 a1 true) else ((spec_apSorted.f kj2 t204).bind fun t209 => (if 0 < (t209.length : Int) then (spec_CirclesUpTo.j1 kj2 l0 a1 (decide ((rd t209 0) ≥ 0))) else (none))))) = some (r1, r2) := by rw [if_pos rfl] at H; exact H
            clear H
            have H := H1
            clear H1
            replace H := Option.bind_eq_some_iff.mp H
            obtain ⟨t208, A150, H⟩ := H
            replace H : (if t208 ≥ 0 then (spec_CirclesUpTo.j1 kj2 l0 a1 true) else ((spec_apSorted.f kj2 t204).bind fun t209 => (if 0 < (t209.length : Int) then (spec_CirclesUpTo.j1 kj2 l0 a1 (decide ((rd t209 0) ≥ 0))) else (none)))) = some (r1, r2) := H
            have A15 := Aside0.mk A150
            clear A150
            by_cases c16 : t208 ≥ 0
            · rw [if_pos c16] at H
              have c16b0 : decide (0 ≤ t208) = true := decide_eq_true c16
              clear c16
              (first | rw [c16b0] | (simp only [i64_w, i32_w]; rw [c16b0]) | skip)
              have H' := Aside0.mk H
              clear H
              obtain ⟨Ao17, co17, eo17⟩ := Kd.R_slice HO206.out
              subst eo17
              go_wp2_with (first | ((with_reducible refine gate_callee (f := 14) rfl ?_); refine goesL_ (some 25) rfl rfl Try.func14 (by kernel_rfl) rfl #[.slice Ao17 t204.length co17] rfl (by (try simp only [List.map_toArray, List.map_cons, List.map_nil]); first | done | rfl | (simp only [List.length_drop, List.length_take]; rfl)) ?_; (with_reducible refine (spec_apGood.calls kj2 _ _ t204 true _ ?side1 ?side2 A13.out).mono ?_); (case side1 => repeat (first | exact (Kd.R_reads' HO206.out).2.2 | (with_reducible refine Kd.C_alloc ?_ _) | (with_reducible refine Kd.C_drewN ?_ _) | (with_reducible refine Kd.C_drew ?_))); (case side2 => exact (Kd.R_reads' HO206.out).2.1); rintro e w' ⟨rfl, ⟨nd, rfl⟩⟩; refine ⟨_, rfl, ?_⟩) | (go_at_call 15; (with_reducible refine (spec_apDown.calls kj2 _ _ t204 t208 _ ?side1 ?side2 A15.out).mono ?_); (case side1 => repeat (first | exact (Kd.R_reads' HO206.out).2.2 | (with_reducible refine Kd.C_alloc ?_ _) | (with_reducible refine Kd.C_drewN ?_ _) | (with_reducible refine Kd.C_drew ?_))); (case side2 => exact (Kd.R_reads' HO206.out).2.1); rintro e w18 ⟨rfl, hb⟩; have n0_ := Aside0.mk (Kd.V_below (by (with_reducible repeat (first | apply Kd.V_alloc | apply Kd.V_drewN | apply Kd.V_drew)); exact HO_0.out) hb); have n1_ := Aside0.mk (Kd.R_below (by (with_reducible repeat (first | apply Kd.R_alloc | apply Kd.R_drewN | apply Kd.R_drew)); exact HO206.out) hb); have n2_ := Aside0.mk (below_step (by repeat (first | (with_reducible first | exact HB.out | apply below_alloc | apply pw_below_drewN | apply below_drew1) | exact HB.out)) hb); clear HO_0; clear HO206; clear HB; have HO_0 := n0_; have HO206 := n1_; have HB := n2_; clear n0_ n1_ n2_; (try clear hb); (try clear hb2); (try clear hk); (try clear hi)))
              go_meet
              case rel => exact ⟨_, (true), (by first | rfl | (simp; done) | (simp [*]; done)), H', ⟨by have := HJ2.out; first | omega | exact Nat.le_refl _⟩, ⟨by (with_reducible repeat (first | apply Kd.V_alloc | apply Kd.V_drewN | apply Kd.V_drew)); exact Kd.V_mono HO_0.out (fun _ hk => hk.1)⟩, ⟨by repeat (first | (with_reducible first | exact HB.out | apply below_alloc | apply pw_below_drewN | apply below_drew1) | exact HB.out)⟩⟩
            · rw [if_neg c16] at H
              have c16b0 : decide (0 ≤ t208) = false := decide_eq_false c16
              clear c16
              (first | rw [c16b0] | (simp only [i64_w, i32_w]; rw [c16b0]) | skip)
              replace H := Option.bind_eq_some_iff.mp H
              obtain ⟨t209, A190, H⟩ := H
              replace H : (if 0 < (t209.length : Int) then (spec_CirclesUpTo.j1 kj2 l0 a1 (decide ((rd t209 0) ≥ 0))) else (none)) = some (r1, r2) := H
              have A19 := Aside0.mk A190
              clear A190
              by_cases c20 : 0 < (t209.length : Int)
              · rw [if_pos c20] at H
                have c20b0 : decide (0 < (t209.length : Int)) = true := decide_eq_true c20
                have c20b1 : decide (0 < t209.length) = true := decide_eq_true (by omega)
                clear c20
                have H' := Aside0.mk H
                clear H
                obtain ⟨Ao21, co21, eo21⟩ := Kd.R_slice HO206.out
                subst eo21
                go_wp2_with (first | ((with_reducible refine gate_callee (f := 14) rfl ?_); refine goesL_ (some 25) rfl rfl Try.func14 (by kernel_rfl) rfl #[.slice Ao21 t204.length co21] rfl (by (try simp only [List.map_toArray, List.map_cons, List.map_nil]); first | done | rfl | (simp only [List.length_drop, List.length_take]; rfl)) ?_; (with_reducible refine (spec_apGood.calls kj2 _ _ t204 true _ ?side1 ?side2 A13.out).mono ?_); (case side1 => repeat (first | exact (Kd.R_reads' HO206.out).2.2 | (with_reducible refine Kd.C_alloc ?_ _) | (with_reducible refine Kd.C_drewN ?_ _) | (with_reducible refine Kd.C_drew ?_))); (case side2 => exact (Kd.R_reads' HO206.out).2.1); rintro e w' ⟨rfl, ⟨nd, rfl⟩⟩; refine ⟨_, rfl, ?_⟩) | (go_at_call 15; (with_reducible refine (spec_apDown.calls kj2 _ _ t204 t208 _ ?side1 ?side2 A15.out).mono ?_); (case side1 => repeat (first | exact (Kd.R_reads' HO206.out).2.2 | (with_reducible refine Kd.C_alloc ?_ _) | (with_reducible refine Kd.C_drewN ?_ _) | (with_reducible refine Kd.C_drew ?_))); (case side2 => exact (Kd.R_reads' HO206.out).2.1); rintro e w22 ⟨rfl, hb⟩; have n0_ := Aside0.mk (Kd.V_below (by (with_reducible repeat (first | apply Kd.V_alloc | apply Kd.V_drewN | apply Kd.V_drew)); exact HO_0.out) hb); have n1_ := Aside0.mk (Kd.R_below (by (with_reducible repeat (first | apply Kd.R_alloc | apply Kd.R_drewN | apply Kd.R_drew)); exact HO206.out) hb); have n2_ := Aside0.mk (below_step (by repeat (first | (with_reducible first | exact HB.out | apply below_alloc | apply pw_below_drewN | apply below_drew1) | exact HB.out)) hb); clear HO_0; clear HO206; clear HB; have HO_0 := n0_; have HO206 := n1_; have HB := n2_; clear n0_ n1_ n2_; (try clear hb); (try clear hb2); (try clear hk); (try clear hi)) | (go_at_call 16; (with_reducible refine (spec_apSorted.calls kj2 _ _ t204 t209 _ ?side1 ?side2 A19.out).mono ?_); (case side1 => repeat (first | exact (Kd.R_reads' HO206.out).2.2 | (with_reducible refine Kd.C_alloc ?_ _) | (with_reducible refine Kd.C_drewN ?_ _) | (with_reducible refine Kd.C_drew ?_))); (case side2 => exact (Kd.R_reads' HO206.out).2.1); rintro e w23 ⟨v210, rfl, ho0, hb⟩; have n0_ := Aside0.mk (Kd.V_elder' (by (with_reducible repeat (first | apply Kd.V_alloc | apply Kd.V_drewN | apply Kd.V_drew)); exact HO_0.out) (Kd.R_base ho0) hb); have n1_ := Aside0.mk (Kd.R_elder' (by (with_reducible repeat (first | apply Kd.R_alloc | apply Kd.R_drewN | apply Kd.R_drew)); exact HO206.out) (Kd.R_base ho0) hb); have n2_ := Aside0.mk (Kd.R_lower (Kd.R_new' (Kd.R_newM (M := fun k_ => (w.heap.size ≤ k_)) ho0 (below_size (by repeat (first | (with_reducible first | exact HB.out | apply below_alloc | apply pw_below_drewN | apply below_drew1) | exact HB.out))) (fun k_ h_ => h_)) (Kd.R_lt (by (with_reducible repeat (first | apply Kd.R_alloc | apply Kd.R_drewN | apply Kd.R_drew)); exact HO206.out))) (below_size (by repeat (first | (with_reducible first | exact HB.out | apply below_alloc | apply pw_below_drewN | apply below_drew1) | exact HB.out)))); have n3_ := Aside0.mk (below_step (by repeat (first | (with_reducible first | exact HB.out | apply below_alloc | apply pw_below_drewN | apply below_drew1) | exact HB.out)) hb); clear HO_0; clear HO206; clear HB; have HO_0 := n0_; have HO206 := n1_; have HO211 := n2_; have HB := n3_; clear n0_ n1_ n2_ n3_; (try clear hb); (try clear hb2); (try clear hk); (try clear hi); (try clear ho0); obtain ⟨Ao24, co24, eo24⟩ := Kd.R_slice HO211.out; subst eo24; have p212 : 0 ≤ (0 : Int) := (by omega); have q212 : 0 < (t209.length : Int) := of_decide_eq_true (by first | (with_reducible assumption) | assumption); obtain ⟨ad212, e212, hx212_0⟩ := Kd.at_int (Kd.R_reads' HO211.out).2.2 0 p212 q212; cases e212; have qi212 : (0 < t209.length) = True := eq_true (by omega); (try rw [show ((0 : Int)).toNat = 0 from rfl] at hx212_0); (try rw [Addr.add_zero'] at hx212_0); replace p212 := eq_true p212; replace q212 := eq_true q212))
                go_meet
                case rel => exact ⟨_, (decide ((rd t209 0) ≥ 0)), (by first | rfl | (simp; done) | (simp [*]; done)), H', ⟨by have := HJ2.out; first | omega | exact Nat.le_refl _⟩, ⟨by (with_reducible repeat (first | apply Kd.V_alloc | apply Kd.V_drewN | apply Kd.V_drew)); exact Kd.V_mono HO_0.out (fun _ hk => hk.1.1)⟩, ⟨by repeat (first | (with_reducible first | exact HB.out | apply below_alloc | apply pw_below_drewN | apply below_drew1) | exact HB.out)⟩⟩
              · rw [if_neg c20] at H
                exact absurd H (by simp)
          · replace c14 := Bool.eq_false_iff.mpr c14
            subst c14
            have H1 : (spec_CirclesUpTo.j1 kj2 l0 a1 true) = some (r1, r2) := by rw [if_neg (show ¬ (false = true) by decide)] at H; exact H
            clear H
            have H := H1
            clear H1
            have H' := Aside0.mk H
            clear H
            obtain ⟨Ao25, co25, eo25⟩ := Kd.R_slice HO206.out
            subst eo25
            go_wp2_with (first | ((with_reducible refine gate_callee (f := 14) rfl ?_); refine goesL_ (some 25) rfl rfl Try.func14 (by kernel_rfl) rfl #[.slice Ao25 t204.length co25] rfl (by (try simp only [List.map_toArray, List.map_cons, List.map_nil]); first | done | rfl | (simp only [List.length_drop, List.length_take]; rfl)) ?_; (with_reducible refine (spec_apGood.calls kj2 _ _ t204 false _ ?side1 ?side2 A13.out).mono ?_); (case side1 => repeat (first | exact (Kd.R_reads' HO206.out).2.2 | (with_reducible refine Kd.C_alloc ?_ _) | (with_reducible refine Kd.C_drewN ?_ _) | (with_reducible refine Kd.C_drew ?_))); (case side2 => exact (Kd.R_reads' HO206.out).2.1); rintro e w' ⟨rfl, ⟨nd, rfl⟩⟩; refine ⟨_, rfl, ?_⟩))
            go_meet
            case rel => exact ⟨_, (true), (by first | rfl | (simp; done) | (simp [*]; done)), H', ⟨by have := HJ2.out; first | omega | exact Nat.le_refl _⟩, ⟨by (with_reducible repeat (first | apply Kd.V_alloc | apply Kd.V_drewN | apply Kd.V_drew)); exact Kd.V_mono HO_0.out (fun _ hk => hk.1)⟩, ⟨by repeat (first | (with_reducible first | exact HB.out | apply below_alloc | apply pw_below_drewN | apply below_drew1) | exact HB.out)⟩⟩
        case rest =>
          clear HC11
          try clear c1
          try clear c2
          try clear p2
          try clear q2
          try clear hx2
          try clear qi2
          try clear c5
          try clear c9
          try clear c11
          try clear c13
          try clear c14
          try clear c16
          try clear c16b0
          try clear c20
          try clear c20b0
          try clear c20b1
          try clear p21
          try clear q21
          try clear hx21
          try clear qi21
          try clear hx212_0
          try clear p2
          try clear p212
          try clear q212
          obtain ⟨kq, x38_10, rfl, HA, HJ10, HO_0, HB⟩ := hcut
          cases kq with
          | zero => exact absurd HA.out (by simp [spec_CirclesUpTo.j1])
          | succ kj10 =>
            have H := HA.out
            clear HA
            simp only [spec_CirclesUpTo.j1] at H
            by_cases c26 : x38_10 = true
            · subst c26
              have H1 : (some (([] : List (S39)), false)) = some (r1, r2) := by rw [if_pos rfl] at H; exact H
              clear H
              have H := H1
              clear H1
              simp only [Option.some.injEq, Prod.mk.injEq] at H
              obtain ⟨rfl, rfl⟩ := H
              go_wp2
              go_ret2
              exact ⟨_, by first | rfl | (simp [errW_none, errW_some] <;> rfl) | (simp [*, errW_none, errW_some] <;> rfl), by first | exact Kd.R_nil _ _ _ _ _ | exact Kd.N_nil _ _ _ _ _ | exact Kd.V_nil _ _ _ _ _ | exact Kd.Q_nil _ _ _ _ _ | exact Kd.S_nil _ _ _ _ _, by repeat (first | (with_reducible first | exact HB.out | apply below_alloc | apply pw_below_drewN | apply below_drew1) | exact HB.out)⟩
            · replace c26 := Bool.eq_false_iff.mpr c26
              subst c26
              have H1 : (spec_CirclesUpTo.l0 kj10 l0 a1 ([] : List (S39)) l0 (l0.length : Int) 0) = some (r1, r2) := by rw [if_neg (show ¬ (false = true) by decide)] at H; exact H
              clear H
              have H := H1
              clear H1
              have H' := Aside0.mk H
              clear H
              go_wp2
              go_loopg [7, 41] kj10 (fun kq v7 v41 w' => ∃ (x7_3 : List (S39)) (x41_3 : Int), v41 = .int .i64 x41_3 ∧ Aside0 (spec_CirclesUpTo.l0 kq l0 a1 x7_3 l0 (l0.length : Int) x41_3 = some (r1, r2)) ∧ Aside0 (kq ≤ kj10) ∧ Aside0 (Kd.V k39 39 w' w.heap.size (fun k_ => (P0_ k_ ∨ w.heap.size ≤ k_) ∧ some k_ ≠ (v7 : Value).ownBlock) (.slice A0 l0.length c0) l0) ∧ Aside0 (Kd.R k39 39 w' w.heap.size (fun k_ => (w.heap.size ≤ k_)) v7 x7_3) ∧ Aside0 (Kd.V k39 39 w' w.heap.size (fun k_ => (P0_ k_ ∨ w.heap.size ≤ k_) ∧ some k_ ≠ (v7 : Value).ownBlock) (.slice A0 l0.length c0) l0) ∧ Aside0 (Below w.heap.size w w'))
              case atStart => exact ⟨(([] : List (S39))), (0), (by first | rfl | (simp; done) | (simp [*]; done)), H', ⟨Nat.le_refl _⟩, ⟨by (with_reducible repeat (first | apply Kd.V_alloc | apply Kd.V_drewN | apply Kd.V_drew)); exact Kd.V_mono HO_0.out (fun _ hk => ⟨hk, (by simp [Value.ownBlock])⟩)⟩, ⟨by first | exact Kd.R_nil _ _ _ _ _ | exact Kd.N_nil _ _ _ _ _ | exact Kd.V_nil _ _ _ _ _ | exact Kd.Q_nil _ _ _ _ _ | exact Kd.S_nil _ _ _ _ _⟩, ⟨by (with_reducible repeat (first | apply Kd.V_alloc | apply Kd.V_drewN | apply Kd.V_drew)); exact Kd.V_mono HO_0.out (fun _ hk => ⟨hk, (by simp [Value.ownBlock])⟩)⟩, ⟨by repeat (first | (with_reducible first | exact HB.out | apply below_alloc | apply pw_below_drewN | apply below_drew1) | exact HB.out)⟩⟩
              case round =>
                clear H'
                try clear c1
                try clear c2
                try clear p2
                try clear q2
                try clear hx2
                try clear qi2
                try clear c5
                try clear c9
                try clear c11
                try clear c13
                try clear c14
                try clear c16
                try clear c16b0
                try clear c20
                try clear c20b0
                try clear c20b1
                try clear p21
                try clear q21
                try clear hx21
                try clear qi21
                try clear c26
                try clear hx212_0
                try clear p2
                try clear p21
                try clear p212
                try clear q2
                try clear q21
                try clear q212
                obtain ⟨x7_3, x41_3, rfl, HA, HK3, HO_0, HO_7, HO_39, HB⟩ := hrel
                cases gk with
                | zero => exact absurd HA.out (by simp [spec_CirclesUpTo.l0])
                | succ k3 =>
                  have H := HA.out
                  clear HA
                  simp only [spec_CirclesUpTo.l0] at H
                  by_cases c27 : x41_3 < (l0.length : Int)
                  · rw [if_pos c27] at H
                    have c27b0 : decide (x41_3 < (l0.length : Int)) = true := decide_eq_true c27
                    clear c27
                    by_cases c28 : 0 ≤ x41_3
                    · rw [if_pos c28] at H
                      have c28b0 : decide (0 ≤ x41_3) = true := decide_eq_true c28
                      clear c28
                      by_cases c29 : x41_3 < (l0.length : Int)
                      · rw [if_pos c29] at H
                        have c29b0 : decide (x41_3 < (l0.length : Int)) = true := decide_eq_true c29
                        clear c29
                        by_cases c30 : ((rd_T39 l0 x41_3).f1) ≤ a1
                        · rw [if_pos c30] at H
                          have c30b0 : decide (((rd_T39 l0 x41_3).f1) ≤ a1) = true := decide_eq_true c30
                          clear c30
                          by_cases c31 : x7_3.length < 4398046511104
                          · rw [if_pos c31] at H
                            have LMc31 := Aside0.mk c31
                            clear c31
                            obtain ⟨y215, hy215⟩ : ∃ y_ : List (S39), y_ = (x7_3 ++ [(⟨(rd_T39 l0 x41_3).f0, (rd_T39 l0 x41_3).f1, (rd_T39 l0 x41_3).f2, (rd_T39 l0 x41_3).f3⟩ : S39)]) := ⟨_, rfl⟩
                            replace H : (spec_CirclesUpTo.l0 k3 l0 a1 y215 l0 (l0.length : Int) (wrap64 (x41_3 + 1))) = some (r1, r2) := by first | (rw [hy215]; with_reducible exact H) | (have H2_ := (Option.bind_some _ _).symm.trans H; rw [hy215]; with_reducible exact H2_) | (have H2_ := (Option.bind_some _ _).symm.trans H; with_reducible exact H2_) | with_reducible exact H | (rw [hy215]; exact H) | exact H
                            have Ny215 := Aside0.mk hy215
                            clear hy215
                            have H' := Aside0.mk H
                            clear H
                            have p213 : 0 ≤ (x41_3 : Int) := of_decide_eq_true (by first | (with_reducible assumption) | assumption)
                            have q213 : x41_3 < (l0.length : Int) := of_decide_eq_true (by first | (with_reducible assumption) | assumption)
                            obtain ⟨ad213, e213, hx213_0, hx213_1, hx213_2, hx213_3⟩ := at_T39 (Kd.V_reads' HO_39.out).2.2 x41_3 p213 q213
                            cases e213
                            replace p213 := eq_true p213
                            replace q213 := eq_true q213
                            go_wp2_with (first | ((with_reducible refine gate_dst (N := 9) rfl ?_); (try (refine gate_guard (by rfl) ?_; dsimp only)); refine box_event ?hg (N := 9) ?hd (cs := #[.int .i64 0, .int .i64 0, .int .i64 0, .int .i64 0]) (t := 39) ?hr ?_; (case hd => rfl); (case hg => rfl); (case hr => first | (go_simp; done) | (go_simp; rfl)); intro gb214 hg w32 hbox hb; have n0_ := Aside0.mk (Kd.V_below (Kd.V_elderB (by (with_reducible repeat (first | apply Kd.V_alloc | apply Kd.V_drewN | apply Kd.V_drew)); exact HO_0.out) gb214 (Nat.le_of_eq hg.symm)) hb); have n1_ := Aside0.mk (Kd.R_below (Kd.R_elderB (by (with_reducible repeat (first | apply Kd.R_alloc | apply Kd.R_drewN | apply Kd.R_drew)); exact HO_7.out) gb214 (Nat.le_of_eq hg.symm)) hb); have n2_ := Aside0.mk (Kd.V_below (Kd.V_elderB (by (with_reducible repeat (first | apply Kd.V_alloc | apply Kd.V_drewN | apply Kd.V_drew)); exact HO_39.out) gb214 (Nat.le_of_eq hg.symm)) hb); have n3_ := Aside0.mk (below_step (by repeat (first | (with_reducible first | exact HB.out | apply below_alloc | apply pw_below_drewN | apply below_drew1) | exact HB.out)) hb); have n4_ := Aside0.mk (hbox); have n5_ := Aside0.mk ((by rw [hg]; exact (below_size (by repeat (first | (with_reducible first | exact HB.out | apply below_alloc | apply pw_below_drewN | apply below_drew1) | exact HB.out))) : w.heap.size ≤ gb214)); have n6_ := Aside0.mk ((by rw [hg]; exact (below_size (by repeat (first | (with_reducible first | exact HB.out | apply below_alloc | apply pw_below_drewN | apply below_drew1) | exact HB.out))) : w.heap.size ≤ gb214)); clear HO_0; clear HO_7; clear HO_39; clear HB; have HO_0 := n0_; have HO_7 := n1_; have HO_39 := n2_; have HB := n3_; have BK214 := n4_; have GW214 := n5_; have GE214 := n6_; clear n0_ n1_ n2_ n3_ n4_ n5_ n6_; clear hb hbox hg; have hcz33_0 : w32.cell? ⟨gb214, 0, none⟩ = some (.int .i64 0) := (blk_cell BK214.out 0).trans rfl; have hcz33_1 : w32.cell? ⟨gb214, 1, none⟩ = some (.int .i64 0) := (blk_cell BK214.out 1).trans rfl; have hcz33_2 : w32.cell? ⟨gb214, 2, none⟩ = some (.int .i64 0) := (blk_cell BK214.out 2).trans rfl; have hcz33_3 : w32.cell? ⟨gb214, 3, none⟩ = some (.int .i64 0) := (blk_cell BK214.out 3).trans rfl; have hfz33_0 := blk_frozen BK214.out 0; have hfz33_1 := blk_frozen BK214.out 1; have hfz33_2 := blk_frozen BK214.out 2; have hfz33_3 := blk_frozen BK214.out 3) | ((with_reducible refine gate_builtin (b := .append) (xs := #[.tmp 49, .tmp 51]) rfl ?_); (try (refine gate_guard (by rfl) ?_; dsimp only)); at_builtin; refine Kd.R_append k39 (w0 := w) w.heap.size rfl (.tmp 49) (.tmp 51) 24 39 (.agg #[(.int .i64 0), (.int .i64 0), (.int .i64 0), (.int .i64 0)]) 32 rfl Try.underlying24 info39 rfl (by decide) (by omega) u7 x7_3 (⟨(rd_T39 l0 x41_3).f0, (rd_T39 l0 x41_3).f1, (rd_T39 l0 x41_3).f2, (rd_T39 l0 x41_3).f3⟩ : S39) [.int .i64 ((rd_T39 l0 x41_3).f0), .int .i64 ((rd_T39 l0 x41_3).f1), .int .i64 ((rd_T39 l0 x41_3).f2), .int .i64 ((rd_T39 l0 x41_3).f3)] (fun k_ => (w.heap.size ≤ k_) ∧ k_ ≠ gb214) (fun _ => False) rfl (by first | (go_simp; done) | (go_simp; rfl)) ?aP (fun _ hk => hk.elim) ?aF ?aO ?aB ?aS ?aL ?_; (case aP => exact k39_mkM _ _ _ (⟨(rd_T39 l0 x41_3).f0, (rd_T39 l0 x41_3).f1, (rd_T39 l0 x41_3).f2, (rd_T39 l0 x41_3).f3⟩ : S39)); (case aB => exact (by repeat (first | (with_reducible first | exact HB.out | apply below_alloc | apply pw_below_drewN | apply below_drew1 | refine below_set ?_ GE214.out) | exact HB.out))); (case aF => exact (fun k_ hk => ⟨(Nat.le_trans (below_size (by repeat (first | (with_reducible first | exact HB.out | apply below_alloc | apply pw_below_drewN | apply below_drew1 | refine below_set ?_ GE214.out) | exact HB.out))) hk), Kd.freshB (g := gb214) (o := .cells #[.int .i64 ((rd_T39 l0 x41_3).f0), .int .i64 ((rd_T39 l0 x41_3).f1), .int .i64 ((rd_T39 l0 x41_3).f2), .int .i64 ((rd_T39 l0 x41_3).f3)] 39 (0, 0)) (by (with_reducible repeat (first | refine blk_drewN ?_ _ | refine blk_drew ?_ | refine blk_alloc ?_ _)); refine blk_put (cs := #[.int .i64 ((rd_T39 l0 x41_3).f0), .int .i64 ((rd_T39 l0 x41_3).f1), .int .i64 ((rd_T39 l0 x41_3).f2), .int .i64 0]) ?_ 3 _ rfl; (with_reducible repeat (first | refine blk_drewN ?_ _ | refine blk_drew ?_ | refine blk_alloc ?_ _)); refine blk_put (cs := #[.int .i64 ((rd_T39 l0 x41_3).f0), .int .i64 ((rd_T39 l0 x41_3).f1), .int .i64 0, .int .i64 0]) ?_ 2 _ rfl; (with_reducible repeat (first | refine blk_drewN ?_ _ | refine blk_drew ?_ | refine blk_alloc ?_ _)); refine blk_put (cs := #[.int .i64 ((rd_T39 l0 x41_3).f0), .int .i64 0, .int .i64 0, .int .i64 0]) ?_ 1 _ rfl; (with_reducible repeat (first | refine blk_drewN ?_ _ | refine blk_drew ?_ | refine blk_alloc ?_ _)); refine blk_put (cs := #[.int .i64 0, .int .i64 0, .int .i64 0, .int .i64 0]) ?_ 0 _ rfl; (with_reducible repeat (first | refine blk_drewN ?_ _ | refine blk_drew ?_ | refine blk_alloc ?_ _)); exact BK214.out) k_ hk⟩)); (case aO => exact (by (with_reducible repeat (first | apply Kd.R_alloc | apply Kd.R_drewN | apply Kd.R_drew)); exact Kd.R_mono (Kd.R_far (p := ⟨gb214, 3, none⟩) (Kd.R_far (p := ⟨gb214, 2, none⟩) (Kd.R_far (p := ⟨gb214, 1, none⟩) (Kd.R_far (p := ⟨gb214, 0, none⟩) (Kd.R_mono HO_7.out (fun k_ hk => (⟨hk, hk.2⟩ : _ ∧ k_ ≠ gb214))) (fun _ hk => hk.2) (.int .i64 ((rd_T39 l0 x41_3).f0))) (fun _ hk => hk.2) (.int .i64 ((rd_T39 l0 x41_3).f1))) (fun _ hk => hk.2) (.int .i64 ((rd_T39 l0 x41_3).f2))) (fun _ hk => hk.2) (.int .i64 ((rd_T39 l0 x41_3).f3))) (fun _ hk => ⟨hk.1.1, hk.1.2⟩))); (case aS => exact (below_size (by repeat (first | (with_reducible first | exact HB.out | apply below_alloc | apply pw_below_drewN | apply below_drew1 | refine below_set ?_ GE214.out) | exact HB.out)))); (case aL => have := LMc31.out; omega); intro v216 w34 ho hb hg hat; rw [← Ny215.out] at ho; have n0_ := Aside0.mk (Kd.V_afterv (ok := (fun k_ => (P0_ k_ ∨ w.heap.size ≤ k_) ∧ k_ ≠ gb214)) (by (with_reducible repeat (first | apply Kd.V_alloc | apply Kd.V_drewN | apply Kd.V_drew)); exact Kd.V_mono (Kd.V_far (p := ⟨gb214, 3, none⟩) (Kd.V_far (p := ⟨gb214, 2, none⟩) (Kd.V_far (p := ⟨gb214, 1, none⟩) (Kd.V_far (p := ⟨gb214, 0, none⟩) (Kd.V_mono HO_0.out (fun k_ hk => (⟨hk, hk.2⟩ : _ ∧ k_ ≠ gb214))) (fun _ hk => hk.2) (.int .i64 ((rd_T39 l0 x41_3).f0))) (fun _ hk => hk.2) (.int .i64 ((rd_T39 l0 x41_3).f1))) (fun _ hk => hk.2) (.int .i64 ((rd_T39 l0 x41_3).f2))) (fun _ hk => hk.2) (.int .i64 ((rd_T39 l0 x41_3).f3))) (fun _ hk => ⟨⟨hk.1.1.1, hk.1.2⟩, hk.1.1.2⟩)) hg hat); have n1_ := Aside0.mk (Kd.V_afterv (ok := (fun k_ => (P0_ k_ ∨ w.heap.size ≤ k_) ∧ k_ ≠ gb214)) (by (with_reducible repeat (first | apply Kd.V_alloc | apply Kd.V_drewN | apply Kd.V_drew)); exact Kd.V_mono (Kd.V_far (p := ⟨gb214, 3, none⟩) (Kd.V_far (p := ⟨gb214, 2, none⟩) (Kd.V_far (p := ⟨gb214, 1, none⟩) (Kd.V_far (p := ⟨gb214, 0, none⟩) (Kd.V_mono HO_39.out (fun k_ hk => (⟨hk, hk.2⟩ : _ ∧ k_ ≠ gb214))) (fun _ hk => hk.2) (.int .i64 ((rd_T39 l0 x41_3).f0))) (fun _ hk => hk.2) (.int .i64 ((rd_T39 l0 x41_3).f1))) (fun _ hk => hk.2) (.int .i64 ((rd_T39 l0 x41_3).f2))) (fun _ hk => hk.2) (.int .i64 ((rd_T39 l0 x41_3).f3))) (fun _ hk => ⟨⟨hk.1.1.1, hk.1.2⟩, hk.1.1.2⟩)) hg hat); have n2_ := Aside0.mk (blk_grown (g := gb214) (o := .cells #[.int .i64 ((rd_T39 l0 x41_3).f0), .int .i64 ((rd_T39 l0 x41_3).f1), .int .i64 ((rd_T39 l0 x41_3).f2), .int .i64 ((rd_T39 l0 x41_3).f3)] 39 (0, 0)) (by (with_reducible repeat (first | refine blk_drewN ?_ _ | refine blk_drew ?_ | refine blk_alloc ?_ _)); refine blk_put (cs := #[.int .i64 ((rd_T39 l0 x41_3).f0), .int .i64 ((rd_T39 l0 x41_3).f1), .int .i64 ((rd_T39 l0 x41_3).f2), .int .i64 0]) ?_ 3 _ rfl; (with_reducible repeat (first | refine blk_drewN ?_ _ | refine blk_drew ?_ | refine blk_alloc ?_ _)); refine blk_put (cs := #[.int .i64 ((rd_T39 l0 x41_3).f0), .int .i64 ((rd_T39 l0 x41_3).f1), .int .i64 0, .int .i64 0]) ?_ 2 _ rfl; (with_reducible repeat (first | refine blk_drewN ?_ _ | refine blk_drew ?_ | refine blk_alloc ?_ _)); refine blk_put (cs := #[.int .i64 ((rd_T39 l0 x41_3).f0), .int .i64 0, .int .i64 0, .int .i64 0]) ?_ 1 _ rfl; (with_reducible repeat (first | refine blk_drewN ?_ _ | refine blk_drew ?_ | refine blk_alloc ?_ _)); refine blk_put (cs := #[.int .i64 0, .int .i64 0, .int .i64 0, .int .i64 0]) ?_ 0 _ rfl; (with_reducible repeat (first | refine blk_drewN ?_ _ | refine blk_drew ?_ | refine blk_alloc ?_ _)); exact BK214.out) hg (Kd.R_away HO_7.out (fun _ hk => hk.2))); have n3_ := Aside0.mk (hb); have n4_ := Aside0.mk (ho); clear HO_0; clear HO_39; clear BK214; clear HB; clear HO_7; have HO_0 := n0_; have HO_39 := n1_; have BK214 := n2_; have HB := n3_; have HO217 := n4_; clear n0_ n1_ n2_ n3_ n4_; clear ho hb hg hat))
                            go_roundg k3
                            case measure => have := HJ2.out; have := HJ10.out; have := HK3.out; omega
                            case rel => exact ⟨(y215), (wrap64 (x41_3 + 1)), (by first | rfl | (simp; done) | (simp [*]; done)), H', ⟨by have := HJ2.out; have := HJ10.out; have := HK3.out; omega⟩, ⟨by (with_reducible repeat (first | apply Kd.V_alloc | apply Kd.V_drewN | apply Kd.V_drew)); exact Kd.V_mono HO_0.out (fun _ hk => ⟨hk.1.1, hk.2⟩)⟩, ⟨by (with_reducible repeat (first | apply Kd.R_alloc | apply Kd.R_drewN | apply Kd.R_drew)); exact Kd.R_mono HO217.out (fun _ hk => hk.1)⟩, ⟨by (with_reducible repeat (first | apply Kd.V_alloc | apply Kd.V_drewN | apply Kd.V_drew)); exact Kd.V_mono HO_39.out (fun _ hk => ⟨hk.1.1, hk.2⟩)⟩, ⟨by repeat (first | (with_reducible first | exact HB.out | apply below_alloc | apply pw_below_drewN | apply below_drew1 | refine below_set ?_ GE214.out) | exact HB.out)⟩⟩
                          · rw [if_neg c31] at H
                            exact absurd H (by simp)
                        · rw [if_neg c30] at H
                          have c30b0 : decide (((rd_T39 l0 x41_3).f1) ≤ a1) = false := decide_eq_false c30
                          clear c30
                          have H' := Aside0.mk H
                          clear H
                          have p213 : 0 ≤ (x41_3 : Int) := of_decide_eq_true (by first | (with_reducible assumption) | assumption)
                          have q213 : x41_3 < (l0.length : Int) := of_decide_eq_true (by first | (with_reducible assumption) | assumption)
                          obtain ⟨ad213, e213, hx213_0, hx213_1, hx213_2, hx213_3⟩ := at_T39 (Kd.V_reads' HO_39.out).2.2 x41_3 p213 q213
                          cases e213
                          replace p213 := eq_true p213
                          replace q213 := eq_true q213
                          go_wp2_with (first | ((with_reducible refine gate_dst (N := 9) rfl ?_); (try (refine gate_guard (by rfl) ?_; dsimp only)); refine box_event ?hg (N := 9) ?hd (cs := #[.int .i64 0, .int .i64 0, .int .i64 0, .int .i64 0]) (t := 39) ?hr ?_; (case hd => rfl); (case hg => rfl); (case hr => first | (go_simp; done) | (go_simp; rfl)); intro gb214 hg w35 hbox hb; have n0_ := Aside0.mk (Kd.V_below (Kd.V_elderB (by (with_reducible repeat (first | apply Kd.V_alloc | apply Kd.V_drewN | apply Kd.V_drew)); exact HO_0.out) gb214 (Nat.le_of_eq hg.symm)) hb); have n1_ := Aside0.mk (Kd.R_below (Kd.R_elderB (by (with_reducible repeat (first | apply Kd.R_alloc | apply Kd.R_drewN | apply Kd.R_drew)); exact HO_7.out) gb214 (Nat.le_of_eq hg.symm)) hb); have n2_ := Aside0.mk (Kd.V_below (Kd.V_elderB (by (with_reducible repeat (first | apply Kd.V_alloc | apply Kd.V_drewN | apply Kd.V_drew)); exact HO_39.out) gb214 (Nat.le_of_eq hg.symm)) hb); have n3_ := Aside0.mk (below_step (by repeat (first | (with_reducible first | exact HB.out | apply below_alloc | apply pw_below_drewN | apply below_drew1) | exact HB.out)) hb); have n4_ := Aside0.mk (hbox); have n5_ := Aside0.mk ((by rw [hg]; exact (below_size (by repeat (first | (with_reducible first | exact HB.out | apply below_alloc | apply pw_below_drewN | apply below_drew1) | exact HB.out))) : w.heap.size ≤ gb214)); have n6_ := Aside0.mk ((by rw [hg]; exact (below_size (by repeat (first | (with_reducible first | exact HB.out | apply below_alloc | apply pw_below_drewN | apply below_drew1) | exact HB.out))) : w.heap.size ≤ gb214)); clear HO_0; clear HO_7; clear HO_39; clear HB; have HO_0 := n0_; have HO_7 := n1_; have HO_39 := n2_; have HB := n3_; have BK214 := n4_; have GW214 := n5_; have GE214 := n6_; clear n0_ n1_ n2_ n3_ n4_ n5_ n6_; clear hb hbox hg; have hcz36_0 : w35.cell? ⟨gb214, 0, none⟩ = some (.int .i64 0) := (blk_cell BK214.out 0).trans rfl; have hcz36_1 : w35.cell? ⟨gb214, 1, none⟩ = some (.int .i64 0) := (blk_cell BK214.out 1).trans rfl; have hcz36_2 : w35.cell? ⟨gb214, 2, none⟩ = some (.int .i64 0) := (blk_cell BK214.out 2).trans rfl; have hcz36_3 : w35.cell? ⟨gb214, 3, none⟩ = some (.int .i64 0) := (blk_cell BK214.out 3).trans rfl; have hfz36_0 := blk_frozen BK214.out 0; have hfz36_1 := blk_frozen BK214.out 1; have hfz36_2 := blk_frozen BK214.out 2; have hfz36_3 := blk_frozen BK214.out 3))
                          go_roundg k3
                          case measure => have := HJ2.out; have := HJ10.out; have := HK3.out; omega
                          case rel => exact ⟨(x7_3), (wrap64 (x41_3 + 1)), (by first | rfl | (simp; done) | (simp [*]; done)), H', ⟨by have := HJ2.out; have := HJ10.out; have := HK3.out; omega⟩, ⟨by (with_reducible repeat (first | apply Kd.V_alloc | apply Kd.V_drewN | apply Kd.V_drew)); exact Kd.V_mono (Kd.V_far (p := ⟨gb214, 3, none⟩) (Kd.V_far (p := ⟨gb214, 2, none⟩) (Kd.V_far (p := ⟨gb214, 1, none⟩) (Kd.V_far (p := ⟨gb214, 0, none⟩) (Kd.V_mono HO_0.out (fun k_ hk => (⟨hk, hk.2⟩ : _ ∧ k_ ≠ gb214))) (fun _ hk => hk.2) (.int .i64 ((rd_T39 l0 x41_3).f0))) (fun _ hk => hk.2) (.int .i64 ((rd_T39 l0 x41_3).f1))) (fun _ hk => hk.2) (.int .i64 ((rd_T39 l0 x41_3).f2))) (fun _ hk => hk.2) (.int .i64 ((rd_T39 l0 x41_3).f3))) (fun _ hk => ⟨hk.1.1.1, hk.1.1.2⟩)⟩, ⟨by (with_reducible repeat (first | apply Kd.R_alloc | apply Kd.R_drewN | apply Kd.R_drew)); exact Kd.R_mono (Kd.R_far (p := ⟨gb214, 3, none⟩) (Kd.R_far (p := ⟨gb214, 2, none⟩) (Kd.R_far (p := ⟨gb214, 1, none⟩) (Kd.R_far (p := ⟨gb214, 0, none⟩) (Kd.R_mono HO_7.out (fun k_ hk => (⟨hk, hk.2⟩ : _ ∧ k_ ≠ gb214))) (fun _ hk => hk.2) (.int .i64 ((rd_T39 l0 x41_3).f0))) (fun _ hk => hk.2) (.int .i64 ((rd_T39 l0 x41_3).f1))) (fun _ hk => hk.2) (.int .i64 ((rd_T39 l0 x41_3).f2))) (fun _ hk => hk.2) (.int .i64 ((rd_T39 l0 x41_3).f3))) (fun _ hk => hk.1.1)⟩, ⟨by (with_reducible repeat (first | apply Kd.V_alloc | apply Kd.V_drewN | apply Kd.V_drew)); exact Kd.V_mono (Kd.V_far (p := ⟨gb214, 3, none⟩) (Kd.V_far (p := ⟨gb214, 2, none⟩) (Kd.V_far (p := ⟨gb214, 1, none⟩) (Kd.V_far (p := ⟨gb214, 0, none⟩) (Kd.V_mono HO_39.out (fun k_ hk => (⟨hk, hk.2⟩ : _ ∧ k_ ≠ gb214))) (fun _ hk => hk.2) (.int .i64 ((rd_T39 l0 x41_3).f0))) (fun _ hk => hk.2) (.int .i64 ((rd_T39 l0 x41_3).f1))) (fun _ hk => hk.2) (.int .i64 ((rd_T39 l0 x41_3).f2))) (fun _ hk => hk.2) (.int .i64 ((rd_T39 l0 x41_3).f3))) (fun _ hk => ⟨hk.1.1.1, hk.1.1.2⟩)⟩, ⟨by repeat (first | (with_reducible first | exact HB.out | apply below_alloc | apply pw_below_drewN | apply below_drew1 | refine below_set ?_ GE214.out) | exact HB.out)⟩⟩
                      · rw [if_neg c29] at H
                        exact absurd H (by simp)
                    · rw [if_neg c28] at H
                      exact absurd H (by simp)
                  · rw [if_neg c27] at H
                    have c27b0 : decide (x41_3 < (l0.length : Int)) = false := decide_eq_false c27
                    clear c27
                    obtain ⟨y218, hy218⟩ : ∃ y_ : List (S41), y_ = (([(⟨l0, (-1)⟩ : S41)] : List (S41))) := ⟨_, rfl⟩
                    replace H : (spec_CirclesUpTo.l1 k3 a1 x7_3 y218 0) = some (r1, r2) := by first | (rw [hy218]; with_reducible exact H) | (have H2_ := (Option.bind_some _ _).symm.trans H; rw [hy218]; with_reducible exact H2_) | (have H2_ := (Option.bind_some _ _).symm.trans H; with_reducible exact H2_) | with_reducible exact H | (rw [hy218]; exact H) | exact H
                    have Ny218 := Aside0.mk hy218
                    clear hy218
                    have H' := Aside0.mk H
                    clear H
                    go_wp2_with (first | ((with_reducible refine gate_dst (N := 56) rfl ?_); (try (refine gate_guard (by rfl) ?_; dsimp only)); refine Kd.N_lit k41 _ 41 ?hg (N' := 56) ?hd (xs := ([(⟨l0, (-1)⟩ : S41)] : List (S41))) (inner := [.slice A0 l0.length c0, .int .i64 (-1)]) (ok := (fun k_ => (P0_ k_ ∨ w.heap.size ≤ k_) ∧ some k_ ≠ (u7 : Value).ownBlock)) (okp := (fun k_ => (P0_ k_ ∨ w.heap.size ≤ k_) ∧ some k_ ≠ (u7 : Value).ownBlock)) ?hr ?hp (fun _ hk => hk) ((show ∀ k_, wr.heap.size ≤ k_ → (fun k_ => (P0_ k_ ∨ w.heap.size ≤ k_) ∧ some k_ ≠ (u7 : Value).ownBlock) k_ from fun k_ hk => ⟨(.inr (Nat.le_trans (below_size (by repeat (first | (with_reducible first | exact HB.out | apply below_alloc | apply pw_below_drewN | apply below_drew1) | exact HB.out))) hk)), Kd.fresh' (Kd.R_lt (by (with_reducible repeat (first | apply Kd.R_alloc | apply Kd.R_drewN | apply Kd.R_drew)); exact HO_7.out)) k_ hk⟩) _ (Nat.le_refl _)) (Below.refl _ _) (Nat.le_refl _) (by simp) ?_; (case hd => rfl); (case hg => rfl); (case hr => first | (go_simp; done) | (go_simp; rfl)); (case hp => exact (Reps.c2 (show Kd.FK k41 _ _ (⟨l0, (-1)⟩ : S41) [.slice A0 l0.length c0, .int .i64 (-1)] from (k41_mkF _ _ (⟨l0, (-1)⟩ : S41) (Kd.V_reads' (Kd.V_mono (ok' := (fun k_ => (P0_ k_ ∨ w.heap.size ≤ k_) ∧ some k_ ≠ (u7 : Value).ownBlock)) (HO_0.out) (fun k_ hk => ⟨hk.1, hk.2⟩))).2.1 (Kd.V_F (Kd.V_mono (ok' := (fun k_ => (P0_ k_ ∨ w.heap.size ≤ k_) ∧ some k_ ≠ (u7 : Value).ownBlock)) (HO_0.out) (fun k_ hk => ⟨hk.1, hk.2⟩))))) (Reps.none _ _))); intro v219 w37 ho38 hb hg_ hnew_; clear hg_ hnew_; (first | rw [← Ny218.out] at ho38 | (simp only [Int.reduceToNat] at ho38; rw [← Ny218.out] at ho38)); have n0_ := Aside0.mk (Kd.V_elder' (by (with_reducible repeat (first | apply Kd.V_alloc | apply Kd.V_drewN | apply Kd.V_drew)); exact HO_0.out) (by first | exact Kd.N_base ho38 | exact Kd.S_base ho38) hb); have n1_ := Aside0.mk (Kd.R_below (by (with_reducible repeat (first | apply Kd.R_alloc | apply Kd.R_drewN | apply Kd.R_drew)); exact HO_7.out) hb); have n2_ := Aside0.mk (Kd.V_elder' (by (with_reducible repeat (first | apply Kd.V_alloc | apply Kd.V_drewN | apply Kd.V_drew)); exact HO_39.out) (by first | exact Kd.N_base ho38 | exact Kd.S_base ho38) hb); have n3_ := Aside0.mk (Kd.N_lower ho38 (below_size (by repeat (first | (with_reducible first | exact HB.out | apply below_alloc | apply pw_below_drewN | apply below_drew1) | exact HB.out)))); have n4_ := Aside0.mk (below_step (by repeat (first | (with_reducible first | exact HB.out | apply below_alloc | apply pw_below_drewN | apply below_drew1) | exact HB.out)) hb); clear HO_0; clear HO_7; clear HO_39; clear HB; have HO_0 := n0_; have HO_7 := n1_; have HO_39 := n2_; have HO220 := n3_; have HB := n4_; clear n0_ n1_ n2_ n3_ n4_; clear hb ho38))
                    go_loopg [7, 10, 11] k3 (fun kq v7 v10 v11 w' => ∃ (x7_4 : List (S39)) (x10_4 : List (S41)) (x11_4 : Int), v11 = .int .i64 x11_4 ∧ Aside0 (spec_CirclesUpTo.l1 kq a1 x7_4 x10_4 x11_4 = some (r1, r2)) ∧ Aside0 (kq ≤ k3) ∧ Aside0 (Kd.R k39 39 w' w.heap.size (fun k_ => (w.heap.size ≤ k_)) v7 x7_4) ∧ Aside0 (Kd.N k41 41 w' w.heap.size (fun k_ => (P0_ k_ ∨ w.heap.size ≤ k_) ∧ some k_ ≠ (v7 : Value).ownBlock) v10 x10_4) ∧ Aside0 (Below w.heap.size w w'))
                    case atStart => exact ⟨(x7_3), (y218), (0), (by first | rfl | (simp; done) | (simp [*]; done)), H', ⟨Nat.le_refl _⟩, ⟨by (with_reducible repeat (first | apply Kd.R_alloc | apply Kd.R_drewN | apply Kd.R_drew)); exact HO_7.out⟩, ⟨by (with_reducible repeat (first | apply Kd.N_alloc | apply Kd.N_drewN | apply Kd.N_drew)); exact HO220.out⟩, ⟨by repeat (first | (with_reducible first | exact HB.out | apply below_alloc | apply pw_below_drewN | apply below_drew1) | exact HB.out)⟩⟩
                    case round =>
                      clear H'
                      try clear c1
                      try clear c2
                      try clear p2
                      try clear q2
                      try clear hx2
                      try clear qi2
                      try clear c3
                      try clear c5
                      try clear p6
                      try clear c9
                      try clear c11
                      try clear c13
                      try clear c14
                      try clear c16
                      try clear c16b0
                      try clear c20
                      try clear c20b0
                      try clear c20b1
                      try clear p21
                      try clear q21
                      try clear hx21
                      try clear qi21
                      try clear c26
                      try clear c27
                      try clear c27b0
                      try clear c28
                      try clear c28b0
                      try clear c29
                      try clear c29b0
                      try clear c30
                      try clear c30b0
                      try clear c31
                      try clear hcz33_0
                      try clear hcz33_1
                      try clear hcz33_2
                      try clear hcz33_3
                      try clear hcz36_0
                      try clear hcz36_1
                      try clear hcz36_2
                      try clear hcz36_3
                      try clear hfz33_0
                      try clear hfz33_1
                      try clear hfz33_2
                      try clear hfz33_3
                      try clear hfz36_0
                      try clear hfz36_1
                      try clear hfz36_2
                      try clear hfz36_3
                      try clear hx212_0
                      try clear hx213_0
                      try clear hx213_1
                      try clear hx213_2
                      try clear hx213_3
                      try clear p2
                      try clear p21
                      try clear p212
                      try clear p213
                      try clear q2
                      try clear q21
                      try clear q212
                      try clear q213
                      obtain ⟨x7_4, x10_4, x11_4, rfl, HA, HK4, HO_7, HO_10, HB⟩ := hrel
                      cases gk with
                      | zero => exact absurd HA.out (by simp [spec_CirclesUpTo.l1])
                      | succ k4 =>
                        have H := HA.out
                        clear HA
                        simp only [spec_CirclesUpTo.l1] at H
                        by_cases c39 : x11_4 < (x10_4.length : Int)
                        · rw [if_pos c39] at H
                          have c39b0 : decide (x11_4 < (x10_4.length : Int)) = true := decide_eq_true c39
                          clear c39
                          have H' := Aside0.mk H
                          clear H
                          obtain ⟨Ao40, co40, eo40⟩ := Kd.N_slice HO_10.out
                          subst eo40
                          go_wp2
                          go_loopg [7, 10, 12] k4 (fun kq v7 v10 v12 w' => ∃ (x7_5 : List (S39)) (x10_5 : List (S41)) (x12_5 : Int), v12 = .int .i64 x12_5 ∧ Aside0 (spec_CirclesUpTo.l2 kq a1 x7_5 x10_5 x11_4 x12_5 = some (r1, r2)) ∧ Aside0 (kq ≤ k4) ∧ Aside0 (Kd.R k39 39 w' w.heap.size (fun k_ => (w.heap.size ≤ k_)) v7 x7_5) ∧ Aside0 (Kd.N k41 41 w' w.heap.size (fun k_ => (P0_ k_ ∨ w.heap.size ≤ k_) ∧ some k_ ≠ (v7 : Value).ownBlock) v10 x10_5) ∧ Aside0 (Below w.heap.size w w'))
                          case atStart => exact ⟨(x7_4), (x10_4), (0), (by first | rfl | (simp; done) | (simp [*]; done)), H', ⟨Nat.le_refl _⟩, ⟨by (with_reducible repeat (first | apply Kd.R_alloc | apply Kd.R_drewN | apply Kd.R_drew)); exact HO_7.out⟩, ⟨by (with_reducible repeat (first | apply Kd.N_alloc | apply Kd.N_drewN | apply Kd.N_drew)); exact HO_10.out⟩, ⟨by repeat (first | (with_reducible first | exact HB.out | apply below_alloc | apply pw_below_drewN | apply below_drew1) | exact HB.out)⟩⟩
                          case round =>
                            clear H'
                            try clear c1
                            try clear c2
                            try clear p2
                            try clear q2
                            try clear hx2
                            try clear qi2
                            try clear c3
                            try clear c5
                            try clear p6
                            try clear c9
                            try clear c11
                            try clear c13
                            try clear c14
                            try clear c16
                            try clear c16b0
                            try clear c20
                            try clear c20b0
                            try clear c20b1
                            try clear p21
                            try clear q21
                            try clear hx21
                            try clear qi21
                            try clear c26
                            try clear c27
                            try clear c27b0
                            try clear c28
                            try clear c28b0
                            try clear c29
                            try clear c29b0
                            try clear c30
                            try clear c30b0
                            try clear c31
                            try clear c39
                            try clear c39b0
                            try clear hcz33_0
                            try clear hcz33_1
                            try clear hcz33_2
                            try clear hcz33_3
                            try clear hcz36_0
                            try clear hcz36_1
                            try clear hcz36_2
                            try clear hcz36_3
                            try clear hfz33_0
                            try clear hfz33_1
                            try clear hfz33_2
                            try clear hfz33_3
                            try clear hfz36_0
                            try clear hfz36_1
                            try clear hfz36_2
                            try clear hfz36_3
                            try clear hx212_0
                            try clear hx213_0
                            try clear hx213_1
                            try clear hx213_2
                            try clear hx213_3
                            try clear p2
                            try clear p21
                            try clear p212
                            try clear p213
                            try clear p6
                            try clear q2
                            try clear q21
                            try clear q212
                            try clear q213
                            obtain ⟨x7_5, x10_5, x12_5, rfl, HA, HK5, HO_7, HO_10, HB⟩ := hrel
                            cases gk with
                            | zero => exact absurd HA.out (by simp [spec_CirclesUpTo.l2])
                            | succ k5 =>
                              have H := HA.out
                              clear HA
                              simp only [spec_CirclesUpTo.l2] at H
                              by_cases c41 : x12_5 < 4
                              · rw [if_pos c41] at H
                                have c41b0 : decide (x12_5 < 4) = true := decide_eq_true c41
                                clear c41
                                by_cases c42 : 0 ≤ x11_4
                                · rw [if_pos c42] at H
                                  have c42b0 : decide (0 ≤ x11_4) = true := decide_eq_true c42
                                  clear c42
                                  by_cases c43 : x11_4 < (x10_5.length : Int)
                                  · rw [if_pos c43] at H
                                    have c43b0 : decide (x11_4 < (x10_5.length : Int)) = true := decide_eq_true c43
                                    clear c43
                                    by_cases c44 : x12_5 = ((rd_T41 x10_5 x11_4).f1)
                                    · rw [if_pos c44] at H
                                      have c44b0 : (x12_5 == ((rd_T41 x10_5 x11_4).f1)) = true := beq_iff_eq.mpr c44
                                      have c44b1 : (x12_5 != ((rd_T41 x10_5 x11_4).f1)) = false := bne_eq_false_iff_eq.mpr c44
                                      clear c44
                                      have H' := Aside0.mk H
                                      clear H
                                      obtain ⟨Ao45, co45, eo45⟩ := Kd.N_slice HO_10.out
                                      subst eo45
                                      have p221 : 0 ≤ (x11_4 : Int) := of_decide_eq_true (by first | (with_reducible assumption) | assumption)
                                      have q221 : x11_4 < (x10_5.length : Int) := of_decide_eq_true (by first | (with_reducible assumption) | assumption)
                                      obtain ⟨ad221, A221_0, c221_0, e221, hx221_0, hx221_1, hl221_0, hi221_0⟩ := at_T41 (Kd.N_reads' HO_10.out).2.2 x11_4 p221 q221
                                      cases e221
                                      obtain ⟨ce221, hce221, hMe221, hcc221⟩ := Kd.N_get HO_10.out z41 x11_4 p221 (by first | exact q221 | exact of_decide_eq_true (by first | (with_reducible assumption) | assumption) | (have e_ := (Kd.N_reads' HO_10.out).1; omega))
                                      obtain ⟨ua221_0, uc221_0, rfl, ul221_0, ge221_0⟩ := k41_openF hMe221
                                      have hv221_0 := hcc221 0 _ rfl
                                      rw [Nat.add_zero] at hv221_0
                                      replace hv221_0 := Option.some.inj (hv221_0.symm.trans hx221_0)
                                      injection hv221_0 with hva_ hvn_ hvc_
                                      rw [hva_] at ge221_0
                                      rw [hvc_] at ul221_0
                                      have HL221_0 := Aside0.mk (show Kd.V k39 39 _ w.heap.size _ _ ((rd_T41 x10_5 x11_4).f0) from Kd.V_mk ul221_0 ge221_0)
                                      clear hva_ hvn_ hvc_ ge221_0 ul221_0
                                      clear hcc221 hce221
                                      have HR221_0 := Aside0.mk hi221_0
                                      have HC221_0 := Aside0.mk hl221_0
                                      clear hi221_0 hl221_0
                                      replace p221 := eq_true p221
                                      replace q221 := eq_true q221
                                      go_wp2
                                      go_roundg k5
                                      case measure => have := HJ2.out; have := HJ10.out; have := HK3.out; have := HK4.out; have := HK5.out; omega
                                      case rel => exact ⟨(x7_5), (x10_5), (wrap64 (x12_5 + 1)), (by first | rfl | (simp; done) | (simp [*]; done)), H', ⟨by have := HJ2.out; have := HJ10.out; have := HK3.out; have := HK4.out; have := HK5.out; omega⟩, ⟨by (with_reducible repeat (first | apply Kd.R_alloc | apply Kd.R_drewN | apply Kd.R_drew)); exact HO_7.out⟩, ⟨by (with_reducible repeat (first | apply Kd.N_alloc | apply Kd.N_drewN | apply Kd.N_drew)); exact HO_10.out⟩, ⟨by repeat (first | (with_reducible first | exact HB.out | apply below_alloc | apply pw_below_drewN | apply below_drew1) | exact HB.out)⟩⟩
                                    · rw [if_neg c44] at H
                                      have c44b0 : (x12_5 == ((rd_T41 x10_5 x11_4).f1)) = false := beq_eq_false_iff_ne.mpr c44
                                      have c44b1 : (x12_5 != ((rd_T41 x10_5 x11_4).f1)) = true := bne_iff_ne.mpr c44
                                      replace H := Option.bind_eq_some_iff.mp H
                                      obtain ⟨t223, A460, H⟩ := H
                                      replace H : (if 0 ≤ x12_5 then (if x12_5 < (t223.length : Int) then (if ((rd_T39 t223 x12_5).f1) > a1 then (spec_CirclesUpTo.l2 k5 a1 x7_5 x10_5 x11_4 (wrap64 (x12_5 + 1))) else ((spec_ciGood.f k5 ((rd_T39 t223 x12_5).f0) ((rd_T39 t223 x12_5).f1) ((rd_T39 t223 x12_5).f2) ((rd_T39 t223 x12_5).f3)).bind fun t228 => (if t228 = true then (if (x7_5.length : Int) = 300 then (some (([] : List (S39)), false)) else (if x7_5.length < 4398046511104 then (if x10_5.length < 4398046511104 then (spec_CirclesUpTo.l2 k5 a1 (x7_5 ++ [(⟨(rd_T39 t223 x12_5).f0, (rd_T39 t223 x12_5).f1, (rd_T39 t223 x12_5).f2, (rd_T39 t223 x12_5).f3⟩ : S39)]) (x10_5 ++ [(⟨t223, x12_5⟩ : S41)]) x11_4 (wrap64 (x12_5 + 1))) else (none)) else (none))) else (some (([] : List (S39)), false))))) else (none)) else (none)) = some (r1, r2) := H
                                      have A46 := Aside0.mk A460
                                      clear A460
                                      by_cases c47 : 0 ≤ x12_5
                                      · rw [if_pos c47] at H
                                        have c47b0 : decide (0 ≤ x12_5) = true := decide_eq_true c47
                                        clear c47
                                        by_cases c48 : x12_5 < (t223.length : Int)
                                        · rw [if_pos c48] at H
                                          have c48b0 : decide (x12_5 < (t223.length : Int)) = true := decide_eq_true c48
                                          clear c48
                                          by_cases c49 : ((rd_T39 t223 x12_5).f1) > a1
                                          · rw [if_pos c49] at H
                                            have c49b0 : decide (a1 < ((rd_T39 t223 x12_5).f1)) = true := decide_eq_true c49
                                            clear c49
                                            have H' := Aside0.mk H
                                            clear H
                                            obtain ⟨Ao50, co50, eo50⟩ := Kd.N_slice HO_10.out
                                            subst eo50
                                            have p221 : 0 ≤ (x11_4 : Int) := of_decide_eq_true (by first | (with_reducible assumption) | assumption)
                                            have q221 : x11_4 < (x10_5.length : Int) := of_decide_eq_true (by first | (with_reducible assumption) | assumption)
                                            obtain ⟨ad221, A221_0, c221_0, e221, hx221_0, hx221_1, hl221_0, hi221_0⟩ := at_T41 (Kd.N_reads' HO_10.out).2.2 x11_4 p221 q221
                                            cases e221
                                            obtain ⟨ce221, hce221, hMe221, hcc221⟩ := Kd.N_get HO_10.out z41 x11_4 p221 (by first | exact q221 | exact of_decide_eq_true (by first | (with_reducible assumption) | assumption) | (have e_ := (Kd.N_reads' HO_10.out).1; omega))
                                            obtain ⟨ua221_0, uc221_0, rfl, ul221_0, ge221_0⟩ := k41_openF hMe221
                                            have hv221_0 := hcc221 0 _ rfl
                                            rw [Nat.add_zero] at hv221_0
                                            replace hv221_0 := Option.some.inj (hv221_0.symm.trans hx221_0)
                                            injection hv221_0 with hva_ hvn_ hvc_
                                            rw [hva_] at ge221_0
                                            rw [hvc_] at ul221_0
                                            have HL221_0 := Aside0.mk (show Kd.V k39 39 _ w.heap.size _ _ ((rd_T41 x10_5 x11_4).f0) from Kd.V_mk ul221_0 ge221_0)
                                            clear hva_ hvn_ hvc_ ge221_0 ul221_0
                                            clear hcc221 hce221
                                            have HR221_0 := Aside0.mk hi221_0
                                            have HC221_0 := Aside0.mk hl221_0
                                            clear hi221_0 hl221_0
                                            replace p221 := eq_true p221
                                            replace q221 := eq_true q221
                                            have p222 : 0 ≤ (x11_4 : Int) := of_decide_eq_true (by first | (with_reducible assumption) | assumption)
                                            have q222 : x11_4 < (x10_5.length : Int) := of_decide_eq_true (by first | (with_reducible assumption) | assumption)
                                            obtain ⟨ad222, A222_0, c222_0, e222, hx222_0, hx222_1, hl222_0, hi222_0⟩ := at_T41 (Kd.N_reads' HO_10.out).2.2 x11_4 p222 q222
                                            obtain rfl : ad221 = ad222 := (by injection e222)
                                            obtain ⟨ce222, hce222, hMe222, hcc222⟩ := Kd.N_get HO_10.out z41 x11_4 p222 (by first | exact q222 | exact of_decide_eq_true (by first | (with_reducible assumption) | assumption) | (have e_ := (Kd.N_reads' HO_10.out).1; omega))
                                            obtain ⟨ua222_0, uc222_0, rfl, ul222_0, ge222_0⟩ := k41_openF hMe222
                                            have hv222_0 := hcc222 0 _ rfl
                                            rw [Nat.add_zero] at hv222_0
                                            replace hv222_0 := Option.some.inj (hv222_0.symm.trans hx222_0)
                                            injection hv222_0 with hva_ hvn_ hvc_
                                            rw [hva_] at ge222_0
                                            rw [hvc_] at ul222_0
                                            have HL222_0 := Aside0.mk (show Kd.V k39 39 _ w.heap.size _ _ ((rd_T41 x10_5 x11_4).f0) from Kd.V_mk ul222_0 ge222_0)
                                            clear hva_ hvn_ hvc_ ge222_0 ul222_0
                                            clear hcc222 hce222
                                            have HR222_0 := Aside0.mk hi222_0
                                            have HC222_0 := Aside0.mk hl222_0
                                            clear hi222_0 hl222_0
                                            replace p222 := eq_true p222
                                            replace q222 := eq_true q222
                                            have ea_ := Option.some.inj (hx221_0.symm.trans hx222_0)
                                            injection ea_ with ea_ en_ ec_
                                            subst ea_
                                            subst ec_
                                            clear en_
                                            go_wp2_with (first | ((with_reducible refine gate_callee (f := 17) rfl ?_); refine goesL_ (some 80) rfl rfl Try.func17 (by kernel_rfl) rfl #[.slice A221_0 ((rd_T41 x10_5 x11_4).f0).length c221_0, .int .i64 x12_5] rfl (by (try simp only [List.map_toArray, List.map_cons, List.map_nil]); first | done | rfl | (simp only [List.length_drop, List.length_take]; rfl)) ?_; (with_reducible refine (spec_ciSwap.calls k5 _ _ ((rd_T41 x10_5 x11_4).f0) x12_5 t223 _ ?side1 ?side2 A46.out).mono ?_); (case side1 => repeat (first | exact (by repeat (first | (with_reducible exact HR222_0.out) | (with_reducible refine Kd.C_alloc ?_ _) | (with_reducible refine Kd.C_drewN ?_ _) | (with_reducible refine Kd.C_drew ?_) | exact HR222_0.out)) | (with_reducible refine Kd.C_alloc ?_ _) | (with_reducible refine Kd.C_drewN ?_ _) | (with_reducible refine Kd.C_drew ?_))); (case side2 => exact HC222_0.out); rintro e w51 ⟨v224, rfl, ho0, hb⟩; refine ⟨_, rfl, ?_⟩; have n0_ := Aside0.mk (Kd.R_elder' (by (with_reducible repeat (first | apply Kd.R_alloc | apply Kd.R_drewN | apply Kd.R_drew)); exact HO_7.out) (Kd.R_base ho0) hb); have n1_ := Aside0.mk (Kd.N_elder' (by (with_reducible repeat (first | apply Kd.N_alloc | apply Kd.N_drewN | apply Kd.N_drew)); exact HO_10.out) (Kd.R_base ho0) hb); have n2_ := Aside0.mk (Kd.V_elder' (by (with_reducible repeat (first | apply Kd.V_alloc | apply Kd.V_drewN | apply Kd.V_drew)); exact HL221_0.out) (Kd.R_base ho0) hb); have n3_ := Aside0.mk (Kd.V_elder' (by (with_reducible repeat (first | apply Kd.V_alloc | apply Kd.V_drewN | apply Kd.V_drew)); exact HL222_0.out) (Kd.R_base ho0) hb); have n4_ := Aside0.mk (Kd.R_lower (Kd.R_new' (Kd.R_newM (M := fun k_ => (w.heap.size ≤ k_)) ho0 (below_size (by repeat (first | (with_reducible first | exact HB.out | apply below_alloc | apply pw_below_drewN | apply below_drew1) | exact HB.out))) (fun k_ h_ => h_)) (Kd.R_lt (by (with_reducible repeat (first | apply Kd.R_alloc | apply Kd.R_drewN | apply Kd.R_drew)); exact HO_7.out))) (below_size (by repeat (first | (with_reducible first | exact HB.out | apply below_alloc | apply pw_below_drewN | apply below_drew1) | exact HB.out)))); have n5_ := Aside0.mk (Kd.C_below (by repeat (first | (with_reducible exact HR221_0.out) | (with_reducible refine Kd.C_alloc ?_ _) | (with_reducible refine Kd.C_drewN ?_ _) | (with_reducible refine Kd.C_drew ?_) | exact HR221_0.out)) hb); have n6_ := Aside0.mk (Kd.C_below (by repeat (first | (with_reducible exact HR222_0.out) | (with_reducible refine Kd.C_alloc ?_ _) | (with_reducible refine Kd.C_drewN ?_ _) | (with_reducible refine Kd.C_drew ?_) | exact HR222_0.out)) hb); have n7_ := Aside0.mk (below_step (by repeat (first | (with_reducible first | exact HB.out | apply below_alloc | apply pw_below_drewN | apply below_drew1) | exact HB.out)) hb); clear HO_7; clear HO_10; clear HL221_0; clear HL222_0; clear HR221_0; clear HR222_0; clear HB; have HO_7 := n0_; have HO_10 := n1_; have HL221_0 := n2_; have HL222_0 := n3_; have HO225 := n4_; have HR221_0 := n5_; have HR222_0 := n6_; have HB := n7_; clear n0_ n1_ n2_ n3_ n4_ n5_ n6_ n7_; (try clear hb); (try clear hb2); (try clear hk); (try clear hi); (try clear ho0); obtain ⟨Ao52, co52, eo52⟩ := Kd.R_slice HO225.out; subst eo52; have p226 : 0 ≤ (x12_5 : Int) := of_decide_eq_true (by first | (with_reducible assumption) | assumption); have q226 : x12_5 < (t223.length : Int) := of_decide_eq_true (by first | (with_reducible assumption) | assumption); obtain ⟨ad226, e226, hx226_0, hx226_1, hx226_2, hx226_3⟩ := at_T39 (Kd.R_reads' HO225.out).2.2 x12_5 p226 q226; cases e226; replace p226 := eq_true p226; replace q226 := eq_true q226))
                                            go_roundg k5
                                            case measure => have := HJ2.out; have := HJ10.out; have := HK3.out; have := HK4.out; have := HK5.out; omega
                                            case rel => exact ⟨(x7_5), (x10_5), (wrap64 (x12_5 + 1)), (by first | rfl | (simp; done) | (simp [*]; done)), H', ⟨by have := HJ2.out; have := HJ10.out; have := HK3.out; have := HK4.out; have := HK5.out; omega⟩, ⟨by (with_reducible repeat (first | apply Kd.R_alloc | apply Kd.R_drewN | apply Kd.R_drew)); exact Kd.R_mono HO_7.out (fun _ hk => hk.1)⟩, ⟨by (with_reducible repeat (first | apply Kd.N_alloc | apply Kd.N_drewN | apply Kd.N_drew)); exact Kd.N_mono HO_10.out (fun _ hk => ⟨hk.1.1, hk.1.2⟩)⟩, ⟨by repeat (first | (with_reducible first | exact HB.out | apply below_alloc | apply pw_below_drewN | apply below_drew1) | exact HB.out)⟩⟩
                                          · rw [if_neg c49] at H
                                            have c49b0 : decide (a1 < ((rd_T39 t223 x12_5).f1)) = false := decide_eq_false c49
                                            clear c49
                                            replace H := Option.bind_eq_some_iff.mp H
                                            obtain ⟨t228, A530, H⟩ := H
                                            replace H : (if t228 = true then (if (x7_5.length : Int) = 300 then (some (([] : List (S39)), false)) else (if x7_5.length < 4398046511104 then (if x10_5.length < 4398046511104 then (spec_CirclesUpTo.l2 k5 a1 (x7_5 ++ [(⟨(rd_T39 t223 x12_5).f0, (rd_T39 t223 x12_5).f1, (rd_T39 t223 x12_5).f2, (rd_T39 t223 x12_5).f3⟩ : S39)]) (x10_5 ++ [(⟨t223, x12_5⟩ : S41)]) x11_4 (wrap64 (x12_5 + 1))) else (none)) else (none))) else (some (([] : List (S39)), false))) = some (r1, r2) := H
                                            have A53 := Aside0.mk A530
                                            clear A530
                                            by_cases c54 : t228 = true
                                            · subst c54
                                              have H1 : (if (x7_5.length : Int) = 300 then (some (([] : List (S39)), false)) else (if x7_5.length < 4398046511104 then (if x10_5.length < 4398046511104 then (spec_CirclesUpTo.l2 k5 a1 (x7_5 ++ [(⟨(rd_T39 t223 x12_5).f0, (rd_T39 t223 x12_5).f1, (rd_T39 t223 x12_5).f2, (rd_T39 t223 x12_5).f3⟩ : S39)]) (x10_5 ++ [(⟨t223, x12_5⟩ : S41)]) x11_4 (wrap64 (x12_5 + 1))) else (none)) else (none))) = some (r1, r2) := by rw [if_pos rfl] at H; exact H
                                              clear H
                                              have H := H1
                                              clear H1
                                              by_cases c55 : (x7_5.length : Int) = 300
                                              · rw [if_pos c55] at H
                                                have c55b0 : ((x7_5.length : Int) == 300) = true := beq_iff_eq.mpr c55
                                                have c55b1 : ((x7_5.length : Int) != 300) = false := bne_eq_false_iff_eq.mpr c55
                                                clear c55
                                                simp only [Option.some.injEq, Prod.mk.injEq] at H
                                                obtain ⟨rfl, rfl⟩ := H
                                                obtain ⟨Ao56, co56, eo56⟩ := Kd.N_slice HO_10.out
                                                subst eo56
                                                have p221 : 0 ≤ (x11_4 : Int) := of_decide_eq_true (by first | (with_reducible assumption) | assumption)
                                                have q221 : x11_4 < (x10_5.length : Int) := of_decide_eq_true (by first | (with_reducible assumption) | assumption)
                                                obtain ⟨ad221, A221_0, c221_0, e221, hx221_0, hx221_1, hl221_0, hi221_0⟩ := at_T41 (Kd.N_reads' HO_10.out).2.2 x11_4 p221 q221
                                                cases e221
                                                obtain ⟨ce221, hce221, hMe221, hcc221⟩ := Kd.N_get HO_10.out z41 x11_4 p221 (by first | exact q221 | exact of_decide_eq_true (by first | (with_reducible assumption) | assumption) | (have e_ := (Kd.N_reads' HO_10.out).1; omega))
                                                obtain ⟨ua221_0, uc221_0, rfl, ul221_0, ge221_0⟩ := k41_openF hMe221
                                                have hv221_0 := hcc221 0 _ rfl
                                                rw [Nat.add_zero] at hv221_0
                                                replace hv221_0 := Option.some.inj (hv221_0.symm.trans hx221_0)
                                                injection hv221_0 with hva_ hvn_ hvc_
                                                rw [hva_] at ge221_0
                                                rw [hvc_] at ul221_0
                                                have HL221_0 := Aside0.mk (show Kd.V k39 39 _ w.heap.size _ _ ((rd_T41 x10_5 x11_4).f0) from Kd.V_mk ul221_0 ge221_0)
                                                clear hva_ hvn_ hvc_ ge221_0 ul221_0
                                                clear hcc221 hce221
                                                have HR221_0 := Aside0.mk hi221_0
                                                have HC221_0 := Aside0.mk hl221_0
                                                clear hi221_0 hl221_0
                                                replace p221 := eq_true p221
                                                replace q221 := eq_true q221
                                                have p222 : 0 ≤ (x11_4 : Int) := of_decide_eq_true (by first | (with_reducible assumption) | assumption)
                                                have q222 : x11_4 < (x10_5.length : Int) := of_decide_eq_true (by first | (with_reducible assumption) | assumption)
                                                obtain ⟨ad222, A222_0, c222_0, e222, hx222_0, hx222_1, hl222_0, hi222_0⟩ := at_T41 (Kd.N_reads' HO_10.out).2.2 x11_4 p222 q222
                                                obtain rfl : ad221 = ad222 := (by injection e222)
                                                obtain ⟨ce222, hce222, hMe222, hcc222⟩ := Kd.N_get HO_10.out z41 x11_4 p222 (by first | exact q222 | exact of_decide_eq_true (by first | (with_reducible assumption) | assumption) | (have e_ := (Kd.N_reads' HO_10.out).1; omega))
                                                obtain ⟨ua222_0, uc222_0, rfl, ul222_0, ge222_0⟩ := k41_openF hMe222
                                                have hv222_0 := hcc222 0 _ rfl
                                                rw [Nat.add_zero] at hv222_0
                                                replace hv222_0 := Option.some.inj (hv222_0.symm.trans hx222_0)
                                                injection hv222_0 with hva_ hvn_ hvc_
                                                rw [hva_] at ge222_0
                                                rw [hvc_] at ul222_0
                                                have HL222_0 := Aside0.mk (show Kd.V k39 39 _ w.heap.size _ _ ((rd_T41 x10_5 x11_4).f0) from Kd.V_mk ul222_0 ge222_0)
                                                clear hva_ hvn_ hvc_ ge222_0 ul222_0
                                                clear hcc222 hce222
                                                have HR222_0 := Aside0.mk hi222_0
                                                have HC222_0 := Aside0.mk hl222_0
                                                clear hi222_0 hl222_0
                                                replace p222 := eq_true p222
                                                replace q222 := eq_true q222
                                                have ea_ := Option.some.inj (hx221_0.symm.trans hx222_0)
                                                injection ea_ with ea_ en_ ec_
                                                subst ea_
                                                subst ec_
                                                clear en_
                                                go_wp2_with (first | ((with_reducible refine gate_callee (f := 17) rfl ?_); refine goesL_ (some 80) rfl rfl Try.func17 (by kernel_rfl) rfl #[.slice A221_0 ((rd_T41 x10_5 x11_4).f0).length c221_0, .int .i64 x12_5] rfl (by (try simp only [List.map_toArray, List.map_cons, List.map_nil]); first | done | rfl | (simp only [List.length_drop, List.length_take]; rfl)) ?_; (with_reducible refine (spec_ciSwap.calls k5 _ _ ((rd_T41 x10_5 x11_4).f0) x12_5 t223 _ ?side1 ?side2 A46.out).mono ?_); (case side1 => repeat (first | exact (by repeat (first | (with_reducible exact HR222_0.out) | (with_reducible refine Kd.C_alloc ?_ _) | (with_reducible refine Kd.C_drewN ?_ _) | (with_reducible refine Kd.C_drew ?_) | exact HR222_0.out)) | (with_reducible refine Kd.C_alloc ?_ _) | (with_reducible refine Kd.C_drewN ?_ _) | (with_reducible refine Kd.C_drew ?_))); (case side2 => exact HC222_0.out); rintro e w57 ⟨v224, rfl, ho0, hb⟩; refine ⟨_, rfl, ?_⟩; have n0_ := Aside0.mk (Kd.R_elder' (by (with_reducible repeat (first | apply Kd.R_alloc | apply Kd.R_drewN | apply Kd.R_drew)); exact HO_7.out) (Kd.R_base ho0) hb); have n1_ := Aside0.mk (Kd.N_elder' (by (with_reducible repeat (first | apply Kd.N_alloc | apply Kd.N_drewN | apply Kd.N_drew)); exact HO_10.out) (Kd.R_base ho0) hb); have n2_ := Aside0.mk (Kd.V_elder' (by (with_reducible repeat (first | apply Kd.V_alloc | apply Kd.V_drewN | apply Kd.V_drew)); exact HL221_0.out) (Kd.R_base ho0) hb); have n3_ := Aside0.mk (Kd.V_elder' (by (with_reducible repeat (first | apply Kd.V_alloc | apply Kd.V_drewN | apply Kd.V_drew)); exact HL222_0.out) (Kd.R_base ho0) hb); have n4_ := Aside0.mk (Kd.R_lower (Kd.R_new' (Kd.R_newM (M := fun k_ => (w.heap.size ≤ k_)) ho0 (below_size (by repeat (first | (with_reducible first | exact HB.out | apply below_alloc | apply pw_below_drewN | apply below_drew1) | exact HB.out))) (fun k_ h_ => h_)) (Kd.R_lt (by (with_reducible repeat (first | apply Kd.R_alloc | apply Kd.R_drewN | apply Kd.R_drew)); exact HO_7.out))) (below_size (by repeat (first | (with_reducible first | exact HB.out | apply below_alloc | apply pw_below_drewN | apply below_drew1) | exact HB.out)))); have n5_ := Aside0.mk (Kd.C_below (by repeat (first | (with_reducible exact HR221_0.out) | (with_reducible refine Kd.C_alloc ?_ _) | (with_reducible refine Kd.C_drewN ?_ _) | (with_reducible refine Kd.C_drew ?_) | exact HR221_0.out)) hb); have n6_ := Aside0.mk (Kd.C_below (by repeat (first | (with_reducible exact HR222_0.out) | (with_reducible refine Kd.C_alloc ?_ _) | (with_reducible refine Kd.C_drewN ?_ _) | (with_reducible refine Kd.C_drew ?_) | exact HR222_0.out)) hb); have n7_ := Aside0.mk (below_step (by repeat (first | (with_reducible first | exact HB.out | apply below_alloc | apply pw_below_drewN | apply below_drew1) | exact HB.out)) hb); clear HO_7; clear HO_10; clear HL221_0; clear HL222_0; clear HR221_0; clear HR222_0; clear HB; have HO_7 := n0_; have HO_10 := n1_; have HL221_0 := n2_; have HL222_0 := n3_; have HO225 := n4_; have HR221_0 := n5_; have HR222_0 := n6_; have HB := n7_; clear n0_ n1_ n2_ n3_ n4_ n5_ n6_ n7_; (try clear hb); (try clear hb2); (try clear hk); (try clear hi); (try clear ho0); obtain ⟨Ao58, co58, eo58⟩ := Kd.R_slice HO225.out; subst eo58; have p226 : 0 ≤ (x12_5 : Int) := of_decide_eq_true (by first | (with_reducible assumption) | assumption); have q226 : x12_5 < (t223.length : Int) := of_decide_eq_true (by first | (with_reducible assumption) | assumption); obtain ⟨ad226, e226, hx226_0, hx226_1, hx226_2, hx226_3⟩ := at_T39 (Kd.R_reads' HO225.out).2.2 x12_5 p226 q226; cases e226; replace p226 := eq_true p226; replace q226 := eq_true q226; have p227 : 0 ≤ (x12_5 : Int) := of_decide_eq_true (by first | (with_reducible assumption) | assumption); have q227 : x12_5 < (t223.length : Int) := of_decide_eq_true (by first | (with_reducible assumption) | assumption); obtain ⟨ad227, e227, hx227_0, hx227_1, hx227_2, hx227_3⟩ := at_T39 (Kd.R_reads' HO225.out).2.2 x12_5 p227 q227; obtain rfl : ad226 = ad227 := (by injection e227); replace p227 := eq_true p227; replace q227 := eq_true q227) | ((with_reducible refine gate_callee (f := 18) rfl ?_); refine goesL_ (some 92) rfl rfl Try.func18 (by kernel_rfl) rfl #[.agg #[.int .i64 ((rd_T39 t223 x12_5).f0), .int .i64 ((rd_T39 t223 x12_5).f1), .int .i64 ((rd_T39 t223 x12_5).f2), .int .i64 ((rd_T39 t223 x12_5).f3)]] rfl (by (try simp only [List.map_toArray, List.map_cons, List.map_nil]); first | done | rfl | (simp only [List.length_drop, List.length_take]; rfl)) ?_; (with_reducible refine (spec_ciGood.calls k5 ((rd_T39 t223 x12_5).f0) ((rd_T39 t223 x12_5).f1) ((rd_T39 t223 x12_5).f2) ((rd_T39 t223 x12_5).f3) true _ A53.out).mono ?_); rintro e w59 ⟨rfl, hb⟩; refine ⟨_, rfl, ?_⟩; have n0_ := Aside0.mk (Kd.R_below (by (with_reducible repeat (first | apply Kd.R_alloc | apply Kd.R_drewN | apply Kd.R_drew)); exact HO_7.out) hb); have n1_ := Aside0.mk (Kd.N_below (by (with_reducible repeat (first | apply Kd.N_alloc | apply Kd.N_drewN | apply Kd.N_drew)); exact HO_10.out) hb); have n2_ := Aside0.mk (Kd.V_below (by (with_reducible repeat (first | apply Kd.V_alloc | apply Kd.V_drewN | apply Kd.V_drew)); exact HL221_0.out) hb); have n3_ := Aside0.mk (Kd.V_below (by (with_reducible repeat (first | apply Kd.V_alloc | apply Kd.V_drewN | apply Kd.V_drew)); exact HL222_0.out) hb); have n4_ := Aside0.mk (Kd.R_below (by (with_reducible repeat (first | apply Kd.R_alloc | apply Kd.R_drewN | apply Kd.R_drew)); exact HO225.out) hb); have n5_ := Aside0.mk (Kd.C_below (by repeat (first | (with_reducible exact HR221_0.out) | (with_reducible refine Kd.C_alloc ?_ _) | (with_reducible refine Kd.C_drewN ?_ _) | (with_reducible refine Kd.C_drew ?_) | exact HR221_0.out)) hb); have n6_ := Aside0.mk (Kd.C_below (by repeat (first | (with_reducible exact HR222_0.out) | (with_reducible refine Kd.C_alloc ?_ _) | (with_reducible refine Kd.C_drewN ?_ _) | (with_reducible refine Kd.C_drew ?_) | exact HR222_0.out)) hb); have n7_ := Aside0.mk (below_step (by repeat (first | (with_reducible first | exact HB.out | apply below_alloc | apply pw_below_drewN | apply below_drew1) | exact HB.out)) hb); clear HO_7; clear HO_10; clear HL221_0; clear HL222_0; clear HO225; clear HR221_0; clear HR222_0; clear HB; have HO_7 := n0_; have HO_10 := n1_; have HL221_0 := n2_; have HL222_0 := n3_; have HO225 := n4_; have HR221_0 := n5_; have HR222_0 := n6_; have HB := n7_; clear n0_ n1_ n2_ n3_ n4_ n5_ n6_ n7_; (try clear hb); (try clear hb2); (try clear hk); (try clear hi); obtain ⟨Ao60, co60, eo60⟩ := Kd.R_slice HO_7.out; subst eo60))
                                                go_ret2
                                                exact ⟨_, by first | rfl | (simp [errW_none, errW_some] <;> rfl) | (simp [*, errW_none, errW_some] <;> rfl), by first | exact Kd.R_nil _ _ _ _ _ | exact Kd.N_nil _ _ _ _ _ | exact Kd.V_nil _ _ _ _ _ | exact Kd.Q_nil _ _ _ _ _ | exact Kd.S_nil _ _ _ _ _, by repeat (first | (with_reducible first | exact HB.out | apply below_alloc | apply pw_below_drewN | apply below_drew1) | exact HB.out)⟩
                                              · rw [if_neg c55] at H
                                                have c55b0 : ((x7_5.length : Int) == 300) = false := beq_eq_false_iff_ne.mpr c55
                                                have c55b1 : ((x7_5.length : Int) != 300) = true := bne_iff_ne.mpr c55
                                                by_cases c61 : x7_5.length < 4398046511104
                                                · rw [if_pos c61] at H
                                                  have LMc61 := Aside0.mk c61
                                                  clear c61
                                                  obtain ⟨y230, hy230⟩ : ∃ y_ : List (S39), y_ = (x7_5 ++ [(⟨(rd_T39 t223 x12_5).f0, (rd_T39 t223 x12_5).f1, (rd_T39 t223 x12_5).f2, (rd_T39 t223 x12_5).f3⟩ : S39)]) := ⟨_, rfl⟩
                                                  replace H : (if x10_5.length < 4398046511104 then (spec_CirclesUpTo.l2 k5 a1 y230 (x10_5 ++ [(⟨t223, x12_5⟩ : S41)]) x11_4 (wrap64 (x12_5 + 1))) else (none)) = some (r1, r2) := by first | (rw [hy230]; with_reducible exact H) | (have H2_ := (Option.bind_some _ _).symm.trans H; rw [hy230]; with_reducible exact H2_) | (have H2_ := (Option.bind_some _ _).symm.trans H; with_reducible exact H2_) | with_reducible exact H | (rw [hy230]; exact H) | exact H
                                                  have Ny230 := Aside0.mk hy230
                                                  clear hy230
                                                  by_cases c62 : x10_5.length < 4398046511104
                                                  · rw [if_pos c62] at H
                                                    have LMc62 := Aside0.mk c62
                                                    clear c62
                                                    obtain ⟨y233, hy233⟩ : ∃ y_ : List (S41), y_ = (x10_5 ++ [(⟨t223, x12_5⟩ : S41)]) := ⟨_, rfl⟩
                                                    replace H : (spec_CirclesUpTo.l2 k5 a1 y230 y233 x11_4 (wrap64 (x12_5 + 1))) = some (r1, r2) := by first | (rw [hy233]; with_reducible exact H) | (have H2_ := (Option.bind_some _ _).symm.trans H; rw [hy233]; with_reducible exact H2_) | (have H2_ := (Option.bind_some _ _).symm.trans H; with_reducible exact H2_) | with_reducible exact H | (rw [hy233]; exact H) | exact H
                                                    have Ny233 := Aside0.mk hy233
                                                    clear hy233
                                                    have H' := Aside0.mk H
                                                    clear H
                                                    obtain ⟨Ao63, co63, eo63⟩ := Kd.N_slice HO_10.out
                                                    subst eo63
                                                    have p221 : 0 ≤ (x11_4 : Int) := of_decide_eq_true (by first | (with_reducible assumption) | assumption)
                                                    have q221 : x11_4 < (x10_5.length : Int) := of_decide_eq_true (by first | (with_reducible assumption) | assumption)
                                                    obtain ⟨ad221, A221_0, c221_0, e221, hx221_0, hx221_1, hl221_0, hi221_0⟩ := at_T41 (Kd.N_reads' HO_10.out).2.2 x11_4 p221 q221
                                                    cases e221
                                                    obtain ⟨ce221, hce221, hMe221, hcc221⟩ := Kd.N_get HO_10.out z41 x11_4 p221 (by first | exact q221 | exact of_decide_eq_true (by first | (with_reducible assumption) | assumption) | (have e_ := (Kd.N_reads' HO_10.out).1; omega))
                                                    obtain ⟨ua221_0, uc221_0, rfl, ul221_0, ge221_0⟩ := k41_openF hMe221
                                                    have hv221_0 := hcc221 0 _ rfl
                                                    rw [Nat.add_zero] at hv221_0
                                                    replace hv221_0 := Option.some.inj (hv221_0.symm.trans hx221_0)
                                                    injection hv221_0 with hva_ hvn_ hvc_
                                                    rw [hva_] at ge221_0
                                                    rw [hvc_] at ul221_0
                                                    have HL221_0 := Aside0.mk (show Kd.V k39 39 _ w.heap.size _ _ ((rd_T41 x10_5 x11_4).f0) from Kd.V_mk ul221_0 ge221_0)
                                                    clear hva_ hvn_ hvc_ ge221_0 ul221_0
                                                    clear hcc221 hce221
                                                    have HR221_0 := Aside0.mk hi221_0
                                                    have HC221_0 := Aside0.mk hl221_0
                                                    clear hi221_0 hl221_0
                                                    replace p221 := eq_true p221
                                                    replace q221 := eq_true q221
                                                    have p222 : 0 ≤ (x11_4 : Int) := of_decide_eq_true (by first | (with_reducible assumption) | assumption)
                                                    have q222 : x11_4 < (x10_5.length : Int) := of_decide_eq_true (by first | (with_reducible assumption) | assumption)
                                                    obtain ⟨ad222, A222_0, c222_0, e222, hx222_0, hx222_1, hl222_0, hi222_0⟩ := at_T41 (Kd.N_reads' HO_10.out).2.2 x11_4 p222 q222
                                                    obtain rfl : ad221 = ad222 := (by injection e222)
                                                    obtain ⟨ce222, hce222, hMe222, hcc222⟩ := Kd.N_get HO_10.out z41 x11_4 p222 (by first | exact q222 | exact of_decide_eq_true (by first | (with_reducible assumption) | assumption) | (have e_ := (Kd.N_reads' HO_10.out).1; omega))
                                                    obtain ⟨ua222_0, uc222_0, rfl, ul222_0, ge222_0⟩ := k41_openF hMe222
                                                    have hv222_0 := hcc222 0 _ rfl
                                                    rw [Nat.add_zero] at hv222_0
                                                    replace hv222_0 := Option.some.inj (hv222_0.symm.trans hx222_0)
                                                    injection hv222_0 with hva_ hvn_ hvc_
                                                    rw [hva_] at ge222_0
                                                    rw [hvc_] at ul222_0
                                                    have HL222_0 := Aside0.mk (show Kd.V k39 39 _ w.heap.size _ _ ((rd_T41 x10_5 x11_4).f0) from Kd.V_mk ul222_0 ge222_0)
                                                    clear hva_ hvn_ hvc_ ge222_0 ul222_0
                                                    clear hcc222 hce222
                                                    have HR222_0 := Aside0.mk hi222_0
                                                    have HC222_0 := Aside0.mk hl222_0
                                                    clear hi222_0 hl222_0
                                                    replace p222 := eq_true p222
                                                    replace q222 := eq_true q222
                                                    have ea_ := Option.some.inj (hx221_0.symm.trans hx222_0)
                                                    injection ea_ with ea_ en_ ec_
                                                    subst ea_
                                                    subst ec_
                                                    clear en_
                                                    go_wp2_with (first | ((with_reducible refine gate_callee (f := 17) rfl ?_); refine goesL_ (some 80) rfl rfl Try.func17 (by kernel_rfl) rfl #[.slice A221_0 ((rd_T41 x10_5 x11_4).f0).length c221_0, .int .i64 x12_5] rfl (by (try simp only [List.map_toArray, List.map_cons, List.map_nil]); first | done | rfl | (simp only [List.length_drop, List.length_take]; rfl)) ?_; (with_reducible refine (spec_ciSwap.calls k5 _ _ ((rd_T41 x10_5 x11_4).f0) x12_5 t223 _ ?side1 ?side2 A46.out).mono ?_); (case side1 => repeat (first | exact (by repeat (first | (with_reducible exact HR222_0.out) | (with_reducible refine Kd.C_alloc ?_ _) | (with_reducible refine Kd.C_drewN ?_ _) | (with_reducible refine Kd.C_drew ?_) | exact HR222_0.out)) | (with_reducible refine Kd.C_alloc ?_ _) | (with_reducible refine Kd.C_drewN ?_ _) | (with_reducible refine Kd.C_drew ?_))); (case side2 => exact HC222_0.out); rintro e w64 ⟨v224, rfl, ho0, hb⟩; refine ⟨_, rfl, ?_⟩; have n0_ := Aside0.mk (Kd.R_elder' (by (with_reducible repeat (first | apply Kd.R_alloc | apply Kd.R_drewN | apply Kd.R_drew)); exact HO_7.out) (Kd.R_base ho0) hb); have n1_ := Aside0.mk (Kd.N_elder' (by (with_reducible repeat (first | apply Kd.N_alloc | apply Kd.N_drewN | apply Kd.N_drew)); exact HO_10.out) (Kd.R_base ho0) hb); have n2_ := Aside0.mk (Kd.V_elder' (by (with_reducible repeat (first | apply Kd.V_alloc | apply Kd.V_drewN | apply Kd.V_drew)); exact HL221_0.out) (Kd.R_base ho0) hb); have n3_ := Aside0.mk (Kd.V_elder' (by (with_reducible repeat (first | apply Kd.V_alloc | apply Kd.V_drewN | apply Kd.V_drew)); exact HL222_0.out) (Kd.R_base ho0) hb); have n4_ := Aside0.mk (Kd.R_lower (Kd.R_new' (Kd.R_newM (M := fun k_ => (w.heap.size ≤ k_)) ho0 (below_size (by repeat (first | (with_reducible first | exact HB.out | apply below_alloc | apply pw_below_drewN | apply below_drew1) | exact HB.out))) (fun k_ h_ => h_)) (Kd.R_lt (by (with_reducible repeat (first | apply Kd.R_alloc | apply Kd.R_drewN | apply Kd.R_drew)); exact HO_7.out))) (below_size (by repeat (first | (with_reducible first | exact HB.out | apply below_alloc | apply pw_below_drewN | apply below_drew1) | exact HB.out)))); have n5_ := Aside0.mk (Kd.C_below (by repeat (first | (with_reducible exact HR221_0.out) | (with_reducible refine Kd.C_alloc ?_ _) | (with_reducible refine Kd.C_drewN ?_ _) | (with_reducible refine Kd.C_drew ?_) | exact HR221_0.out)) hb); have n6_ := Aside0.mk (Kd.C_below (by repeat (first | (with_reducible exact HR222_0.out) | (with_reducible refine Kd.C_alloc ?_ _) | (with_reducible refine Kd.C_drewN ?_ _) | (with_reducible refine Kd.C_drew ?_) | exact HR222_0.out)) hb); have n7_ := Aside0.mk (below_step (by repeat (first | (with_reducible first | exact HB.out | apply below_alloc | apply pw_below_drewN | apply below_drew1) | exact HB.out)) hb); clear HO_7; clear HO_10; clear HL221_0; clear HL222_0; clear HR221_0; clear HR222_0; clear HB; have HO_7 := n0_; have HO_10 := n1_; have HL221_0 := n2_; have HL222_0 := n3_; have HO225 := n4_; have HR221_0 := n5_; have HR222_0 := n6_; have HB := n7_; clear n0_ n1_ n2_ n3_ n4_ n5_ n6_ n7_; (try clear hb); (try clear hb2); (try clear hk); (try clear hi); (try clear ho0); obtain ⟨Ao65, co65, eo65⟩ := Kd.R_slice HO225.out; subst eo65; have p226 : 0 ≤ (x12_5 : Int) := of_decide_eq_true (by first | (with_reducible assumption) | assumption); have q226 : x12_5 < (t223.length : Int) := of_decide_eq_true (by first | (with_reducible assumption) | assumption); obtain ⟨ad226, e226, hx226_0, hx226_1, hx226_2, hx226_3⟩ := at_T39 (Kd.R_reads' HO225.out).2.2 x12_5 p226 q226; cases e226; replace p226 := eq_true p226; replace q226 := eq_true q226; have p227 : 0 ≤ (x12_5 : Int) := of_decide_eq_true (by first | (with_reducible assumption) | assumption); have q227 : x12_5 < (t223.length : Int) := of_decide_eq_true (by first | (with_reducible assumption) | assumption); obtain ⟨ad227, e227, hx227_0, hx227_1, hx227_2, hx227_3⟩ := at_T39 (Kd.R_reads' HO225.out).2.2 x12_5 p227 q227; obtain rfl : ad226 = ad227 := (by injection e227); replace p227 := eq_true p227; replace q227 := eq_true q227) | ((with_reducible refine gate_callee (f := 18) rfl ?_); refine goesL_ (some 92) rfl rfl Try.func18 (by kernel_rfl) rfl #[.agg #[.int .i64 ((rd_T39 t223 x12_5).f0), .int .i64 ((rd_T39 t223 x12_5).f1), .int .i64 ((rd_T39 t223 x12_5).f2), .int .i64 ((rd_T39 t223 x12_5).f3)]] rfl (by (try simp only [List.map_toArray, List.map_cons, List.map_nil]); first | done | rfl | (simp only [List.length_drop, List.length_take]; rfl)) ?_; (with_reducible refine (spec_ciGood.calls k5 ((rd_T39 t223 x12_5).f0) ((rd_T39 t223 x12_5).f1) ((rd_T39 t223 x12_5).f2) ((rd_T39 t223 x12_5).f3) true _ A53.out).mono ?_); rintro e w66 ⟨rfl, hb⟩; refine ⟨_, rfl, ?_⟩; have n0_ := Aside0.mk (Kd.R_below (by (with_reducible repeat (first | apply Kd.R_alloc | apply Kd.R_drewN | apply Kd.R_drew)); exact HO_7.out) hb); have n1_ := Aside0.mk (Kd.N_below (by (with_reducible repeat (first | apply Kd.N_alloc | apply Kd.N_drewN | apply Kd.N_drew)); exact HO_10.out) hb); have n2_ := Aside0.mk (Kd.V_below (by (with_reducible repeat (first | apply Kd.V_alloc | apply Kd.V_drewN | apply Kd.V_drew)); exact HL221_0.out) hb); have n3_ := Aside0.mk (Kd.V_below (by (with_reducible repeat (first | apply Kd.V_alloc | apply Kd.V_drewN | apply Kd.V_drew)); exact HL222_0.out) hb); have n4_ := Aside0.mk (Kd.R_below (by (with_reducible repeat (first | apply Kd.R_alloc | apply Kd.R_drewN | apply Kd.R_drew)); exact HO225.out) hb); have n5_ := Aside0.mk (Kd.C_below (by repeat (first | (with_reducible exact HR221_0.out) | (with_reducible refine Kd.C_alloc ?_ _) | (with_reducible refine Kd.C_drewN ?_ _) | (with_reducible refine Kd.C_drew ?_) | exact HR221_0.out)) hb); have n6_ := Aside0.mk (Kd.C_below (by repeat (first | (with_reducible exact HR222_0.out) | (with_reducible refine Kd.C_alloc ?_ _) | (with_reducible refine Kd.C_drewN ?_ _) | (with_reducible refine Kd.C_drew ?_) | exact HR222_0.out)) hb); have n7_ := Aside0.mk (below_step (by repeat (first | (with_reducible first | exact HB.out | apply below_alloc | apply pw_below_drewN | apply below_drew1) | exact HB.out)) hb); clear HO_7; clear HO_10; clear HL221_0; clear HL222_0; clear HO225; clear HR221_0; clear HR222_0; clear HB; have HO_7 := n0_; have HO_10 := n1_; have HL221_0 := n2_; have HL222_0 := n3_; have HO225 := n4_; have HR221_0 := n5_; have HR222_0 := n6_; have HB := n7_; clear n0_ n1_ n2_ n3_ n4_ n5_ n6_ n7_; (try clear hb); (try clear hb2); (try clear hk); (try clear hi); obtain ⟨Ao67, co67, eo67⟩ := Kd.R_slice HO_7.out; subst eo67; have p229 : 0 ≤ (x12_5 : Int) := of_decide_eq_true (by first | (with_reducible assumption) | assumption); have q229 : x12_5 < (t223.length : Int) := of_decide_eq_true (by first | (with_reducible assumption) | assumption); obtain ⟨ad229, e229, hx229_0, hx229_1, hx229_2, hx229_3⟩ := at_T39 (Kd.R_reads' HO225.out).2.2 x12_5 p229 q229; obtain rfl : ad226 = ad229 := (by injection e229); replace p229 := eq_true p229; replace q229 := eq_true q229) | ((with_reducible refine gate_builtin (b := .append) (xs := #[.tmp 99, .tmp 104]) rfl ?_); (try (refine gate_guard (by rfl) ?_; dsimp only)); at_builtin; refine Kd.R_append k39 (w0 := w) w.heap.size rfl (.tmp 99) (.tmp 104) 24 39 (.agg #[(.int .i64 0), (.int .i64 0), (.int .i64 0), (.int .i64 0)]) 32 rfl Try.underlying24 info39 rfl (by decide) (by omega) (.slice Ao67 x7_5.length co67) x7_5 (⟨(rd_T39 t223 x12_5).f0, (rd_T39 t223 x12_5).f1, (rd_T39 t223 x12_5).f2, (rd_T39 t223 x12_5).f3⟩ : S39) [.int .i64 ((rd_T39 t223 x12_5).f0), .int .i64 ((rd_T39 t223 x12_5).f1), .int .i64 ((rd_T39 t223 x12_5).f2), .int .i64 ((rd_T39 t223 x12_5).f3)] (fun k_ => (w.heap.size ≤ k_) ∧ some k_ ≠ (.slice (some ad226) t223.length co65 : Value).ownBlock) (fun _ => False) rfl rfl ?aP (fun _ hk => hk.elim) ?aF ?aO ?aB ?aS ?aL ?_; (case aP => exact k39_mkM _ _ _ (⟨(rd_T39 t223 x12_5).f0, (rd_T39 t223 x12_5).f1, (rd_T39 t223 x12_5).f2, (rd_T39 t223 x12_5).f3⟩ : S39)); (case aB => exact (by repeat (first | (with_reducible first | exact HB.out | apply below_alloc | apply pw_below_drewN | apply below_drew1) | exact HB.out))); (case aF => exact (fun k_ hk => ⟨(Nat.le_trans (below_size (by repeat (first | (with_reducible first | exact HB.out | apply below_alloc | apply pw_below_drewN | apply below_drew1) | exact HB.out))) hk), Kd.fresh' (Kd.R_lt (by (with_reducible repeat (first | apply Kd.R_alloc | apply Kd.R_drewN | apply Kd.R_drew)); exact HO225.out)) k_ hk⟩)); (case aO => exact (by (with_reducible repeat (first | apply Kd.R_alloc | apply Kd.R_drewN | apply Kd.R_drew)); exact HO_7.out)); (case aS => exact (below_size (by repeat (first | (with_reducible first | exact HB.out | apply below_alloc | apply pw_below_drewN | apply below_drew1) | exact HB.out)))); (case aL => have := LMc61.out; omega); intro v231 w68 ho hb hg hat; rw [← Ny230.out] at ho; have n0_ := Aside0.mk (Kd.N_afterv (ok := (fun k_ => (P0_ k_ ∨ w.heap.size ≤ k_) ∧ some k_ ≠ (.slice (some ad226) t223.length co65 : Value).ownBlock)) (by (with_reducible repeat (first | apply Kd.N_alloc | apply Kd.N_drewN | apply Kd.N_drew)); exact Kd.N_mono HO_10.out (fun _ hk => ⟨⟨hk.1.1, hk.2⟩, hk.1.2⟩)) hg hat); have n1_ := Aside0.mk (Kd.V_afterv (ok := (fun k_ => (P0_ k_ ∨ w.heap.size ≤ k_) ∧ some k_ ≠ (.slice (some ad221) x10_5.length co63 : Value).ownBlock ∧ some k_ ≠ (.slice (some ad226) t223.length co65 : Value).ownBlock)) (by (with_reducible repeat (first | apply Kd.V_alloc | apply Kd.V_drewN | apply Kd.V_drew)); exact Kd.V_mono HL221_0.out (fun _ hk => ⟨⟨hk.1.1.1, ⟨hk.1.2, hk.2⟩⟩, hk.1.1.2⟩)) hg hat); have n2_ := Aside0.mk (Kd.V_afterv (ok := (fun k_ => (P0_ k_ ∨ w.heap.size ≤ k_) ∧ some k_ ≠ (.slice (some ad221) x10_5.length co63 : Value).ownBlock ∧ some k_ ≠ (.slice (some ad226) t223.length co65 : Value).ownBlock)) (by (with_reducible repeat (first | apply Kd.V_alloc | apply Kd.V_drewN | apply Kd.V_drew)); exact Kd.V_mono HL222_0.out (fun _ hk => ⟨⟨hk.1.1.1, ⟨hk.1.2, hk.2⟩⟩, hk.1.1.2⟩)) hg hat); have n3_ := Aside0.mk (Kd.R_after (ok := (fun k_ => (w.heap.size ≤ k_))) (by (with_reducible repeat (first | apply Kd.R_alloc | apply Kd.R_drewN | apply Kd.R_drew)); exact Kd.R_mono HO225.out (fun _ hk => ⟨hk.1.1, hk.2⟩)) hg hat); have n4_ := Aside0.mk (hb); have n5_ := Aside0.mk (ho); clear HO_10; clear HL221_0; clear HL222_0; clear HO225; clear HB; clear HO_7; have HO_10 := n0_; have HL221_0 := n1_; have HL222_0 := n2_; have HO225 := n3_; have HB := n4_; have HO232 := n5_; clear n0_ n1_ n2_ n3_ n4_ n5_; clear ho hb hg hat) | ((with_reducible refine gate_builtin (b := .append) (xs := #[.tmp 106, .tmp 110]) rfl ?_); (try (refine gate_guard (by rfl) ?_; dsimp only)); at_builtin; refine Kd.N_append k41 (w0 := w) w.heap.size rfl (.tmp 106) (.tmp 110) 42 41 (.agg #[(.slice none 0 0), (.int .i64 0)]) 32 rfl Try.underlying42 info41 rfl (by decide) (by omega) (.slice (some ad221) x10_5.length co63) x10_5 (⟨t223, x12_5⟩ : S41) [.slice (some ad226) t223.length co65, .int .i64 x12_5] (fun k_ => (P0_ k_ ∨ w.heap.size ≤ k_) ∧ some k_ ≠ (v231 : Value).ownBlock) (fun k_ => ((fun k_ => (P0_ k_ ∨ w.heap.size ≤ k_) ∧ some k_ ≠ (v231 : Value).ownBlock)) k_ ∧ some k_ ≠ (.slice (some ad221) x10_5.length co63 : Value).ownBlock) rfl rfl ?aP (fun _ hk => hk) ?aF ?aO ?aB ?aS ?aL ?_; (case aP => exact (k41_mkF _ _ (⟨t223, x12_5⟩ : S41) (Kd.R_reads' (Kd.R_mono (ok' := (fun k_ => ((fun k_ => (P0_ k_ ∨ w.heap.size ≤ k_) ∧ some k_ ≠ (v231 : Value).ownBlock)) k_ ∧ some k_ ≠ (.slice (some ad221) x10_5.length co63 : Value).ownBlock)) (Kd.R_apart' (HO225.out) (Kd.N_typed HO_10.out) (by decide)) (fun k_ hk => ⟨⟨(.inr (hk.1.1)), hk.1.2⟩, hk.2⟩))).2.1 (Kd.R_F (Kd.R_mono (ok' := (fun k_ => ((fun k_ => (P0_ k_ ∨ w.heap.size ≤ k_) ∧ some k_ ≠ (v231 : Value).ownBlock)) k_ ∧ some k_ ≠ (.slice (some ad221) x10_5.length co63 : Value).ownBlock)) (Kd.R_apart' (HO225.out) (Kd.N_typed HO_10.out) (by decide)) (fun k_ hk => ⟨⟨(.inr (hk.1.1)), hk.1.2⟩, hk.2⟩))))); (case aB => exact (by repeat (first | (with_reducible first | exact HB.out | apply below_alloc | apply pw_below_drewN | apply below_drew1) | exact HB.out))); (case aF => exact (fun k_ hk => ⟨(.inr (Nat.le_trans (below_size (by repeat (first | (with_reducible first | exact HB.out | apply below_alloc | apply pw_below_drewN | apply below_drew1) | exact HB.out))) hk)), Kd.fresh' (Kd.R_lt (by (with_reducible repeat (first | apply Kd.R_alloc | apply Kd.R_drewN | apply Kd.R_drew)); exact HO232.out)) k_ hk⟩)); (case aO => exact (by (with_reducible repeat (first | apply Kd.N_alloc | apply Kd.N_drewN | apply Kd.N_drew)); exact Kd.N_mono HO_10.out (fun _ hk => ⟨hk.1.1, hk.2⟩))); (case aS => exact (below_size (by repeat (first | (with_reducible first | exact HB.out | apply below_alloc | apply pw_below_drewN | apply below_drew1) | exact HB.out)))); (case aL => have := LMc62.out; omega); intro v234 w69 ho hb hg hat; rw [← Ny233.out] at ho; have n0_ := Aside0.mk (Kd.V_afterv (ok := (fun k_ => (P0_ k_ ∨ w.heap.size ≤ k_) ∧ some k_ ≠ (.slice (some ad226) t223.length co65 : Value).ownBlock ∧ some k_ ≠ (v231 : Value).ownBlock)) (by (with_reducible repeat (first | apply Kd.V_alloc | apply Kd.V_drewN | apply Kd.V_drew)); exact Kd.V_mono HL221_0.out (fun _ hk => ⟨⟨hk.1.1, ⟨hk.1.2.2, hk.2⟩⟩, hk.1.2.1⟩)) hg hat); have n1_ := Aside0.mk (Kd.V_afterv (ok := (fun k_ => (P0_ k_ ∨ w.heap.size ≤ k_) ∧ some k_ ≠ (.slice (some ad226) t223.length co65 : Value).ownBlock ∧ some k_ ≠ (v231 : Value).ownBlock)) (by (with_reducible repeat (first | apply Kd.V_alloc | apply Kd.V_drewN | apply Kd.V_drew)); exact Kd.V_mono HL222_0.out (fun _ hk => ⟨⟨hk.1.1, ⟨hk.1.2.2, hk.2⟩⟩, hk.1.2.1⟩)) hg hat); have n2_ := Aside0.mk (Kd.R_over' (by (with_reducible repeat (first | apply Kd.R_alloc | apply Kd.R_drewN | apply Kd.R_drew)); exact HO232.out) (Kd.N_typed (by (with_reducible repeat (first | apply Kd.N_alloc | apply Kd.N_drewN | apply Kd.N_drew)); exact HO_10.out)) (by decide) hg); have n3_ := Aside0.mk (hb); have n4_ := Aside0.mk (ho); clear HL221_0; clear HL222_0; clear HO232; clear HB; clear HO_10; clear HO225; have HL221_0 := n0_; have HL222_0 := n1_; have HO232 := n2_; have HB := n3_; have HO235 := n4_; clear n0_ n1_ n2_ n3_ n4_; clear ho hb hg hat))
                                                    go_roundg k5
                                                    case measure => have := HJ2.out; have := HJ10.out; have := HK3.out; have := HK4.out; have := HK5.out; omega
                                                    case rel => exact ⟨(y230), (y233), (wrap64 (x12_5 + 1)), (by first | rfl | (simp; done) | (simp [*]; done)), H', ⟨by have := HJ2.out; have := HJ10.out; have := HK3.out; have := HK4.out; have := HK5.out; omega⟩, ⟨by (with_reducible repeat (first | apply Kd.R_alloc | apply Kd.R_drewN | apply Kd.R_drew)); exact Kd.R_mono HO232.out (fun _ hk => hk.1)⟩, ⟨by (with_reducible repeat (first | apply Kd.N_alloc | apply Kd.N_drewN | apply Kd.N_drew)); exact HO235.out⟩, ⟨by repeat (first | (with_reducible first | exact HB.out | apply below_alloc | apply pw_below_drewN | apply below_drew1) | exact HB.out)⟩⟩
                                                  · rw [if_neg c62] at H
                                                    exact absurd H (by simp)
                                                · rw [if_neg c61] at H
                                                  exact absurd H (by simp)
                                            · replace c54 := Bool.eq_false_iff.mpr c54
                                              subst c54
                                              have H1 : (some (([] : List (S39)), false)) = some (r1, r2) := by rw [if_neg (show ¬ (false = true) by decide)] at H; exact H
                                              clear H
                                              have H := H1
                                              clear H1
                                              simp only [Option.some.injEq, Prod.mk.injEq] at H
                                              obtain ⟨rfl, rfl⟩ := H
                                              obtain ⟨Ao70, co70, eo70⟩ := Kd.N_slice HO_10.out
                                              subst eo70
                                              have p221 : 0 ≤ (x11_4 : Int) := of_decide_eq_true (by first | (with_reducible assumption) | assumption)
                                              have q221 : x11_4 < (x10_5.length : Int) := of_decide_eq_true (by first | (with_reducible assumption) | assumption)
                                              obtain ⟨ad221, A221_0, c221_0, e221, hx221_0, hx221_1, hl221_0, hi221_0⟩ := at_T41 (Kd.N_reads' HO_10.out).2.2 x11_4 p221 q221
                                              cases e221
                                              obtain ⟨ce221, hce221, hMe221, hcc221⟩ := Kd.N_get HO_10.out z41 x11_4 p221 (by first | exact q221 | exact of_decide_eq_true (by first | (with_reducible assumption) | assumption) | (have e_ := (Kd.N_reads' HO_10.out).1; omega))
                                              obtain ⟨ua221_0, uc221_0, rfl, ul221_0, ge221_0⟩ := k41_openF hMe221
                                              have hv221_0 := hcc221 0 _ rfl
                                              rw [Nat.add_zero] at hv221_0
                                              replace hv221_0 := Option.some.inj (hv221_0.symm.trans hx221_0)
                                              injection hv221_0 with hva_ hvn_ hvc_
                                              rw [hva_] at ge221_0
                                              rw [hvc_] at ul221_0
                                              have HL221_0 := Aside0.mk (show Kd.V k39 39 _ w.heap.size _ _ ((rd_T41 x10_5 x11_4).f0) from Kd.V_mk ul221_0 ge221_0)
                                              clear hva_ hvn_ hvc_ ge221_0 ul221_0
                                              clear hcc221 hce221
                                              have HR221_0 := Aside0.mk hi221_0
                                              have HC221_0 := Aside0.mk hl221_0
                                              clear hi221_0 hl221_0
                                              replace p221 := eq_true p221
                                              replace q221 := eq_true q221
                                              have p222 : 0 ≤ (x11_4 : Int) := of_decide_eq_true (by first | (with_reducible assumption) | assumption)
                                              have q222 : x11_4 < (x10_5.length : Int) := of_decide_eq_true (by first | (with_reducible assumption) | assumption)
                                              obtain ⟨ad222, A222_0, c222_0, e222, hx222_0, hx222_1, hl222_0, hi222_0⟩ := at_T41 (Kd.N_reads' HO_10.out).2.2 x11_4 p222 q222
                                              obtain rfl : ad221 = ad222 := (by injection e222)
                                              obtain ⟨ce222, hce222, hMe222, hcc222⟩ := Kd.N_get HO_10.out z41 x11_4 p222 (by first | exact q222 | exact of_decide_eq_true (by first | (with_reducible assumption) | assumption) | (have e_ := (Kd.N_reads' HO_10.out).1; omega))
                                              obtain ⟨ua222_0, uc222_0, rfl, ul222_0, ge222_0⟩ := k41_openF hMe222
                                              have hv222_0 := hcc222 0 _ rfl
                                              rw [Nat.add_zero] at hv222_0
                                              replace hv222_0 := Option.some.inj (hv222_0.symm.trans hx222_0)
                                              injection hv222_0 with hva_ hvn_ hvc_
                                              rw [hva_] at ge222_0
                                              rw [hvc_] at ul222_0
                                              have HL222_0 := Aside0.mk (show Kd.V k39 39 _ w.heap.size _ _ ((rd_T41 x10_5 x11_4).f0) from Kd.V_mk ul222_0 ge222_0)
                                              clear hva_ hvn_ hvc_ ge222_0 ul222_0
                                              clear hcc222 hce222
                                              have HR222_0 := Aside0.mk hi222_0
                                              have HC222_0 := Aside0.mk hl222_0
                                              clear hi222_0 hl222_0
                                              replace p222 := eq_true p222
                                              replace q222 := eq_true q222
                                              have ea_ := Option.some.inj (hx221_0.symm.trans hx222_0)
                                              injection ea_ with ea_ en_ ec_
                                              subst ea_
                                              subst ec_
                                              clear en_
                                              go_wp2_with (first | ((with_reducible refine gate_callee (f := 17) rfl ?_); refine goesL_ (some 80) rfl rfl Try.func17 (by kernel_rfl) rfl #[.slice A221_0 ((rd_T41 x10_5 x11_4).f0).length c221_0, .int .i64 x12_5] rfl (by (try simp only [List.map_toArray, List.map_cons, List.map_nil]); first | done | rfl | (simp only [List.length_drop, List.length_take]; rfl)) ?_; (with_reducible refine (spec_ciSwap.calls k5 _ _ ((rd_T41 x10_5 x11_4).f0) x12_5 t223 _ ?side1 ?side2 A46.out).mono ?_); (case side1 => repeat (first | exact (by repeat (first | (with_reducible exact HR222_0.out) | (with_reducible refine Kd.C_alloc ?_ _) | (with_reducible refine Kd.C_drewN ?_ _) | (with_reducible refine Kd.C_drew ?_) | exact HR222_0.out)) | (with_reducible refine Kd.C_alloc ?_ _) | (with_reducible refine Kd.C_drewN ?_ _) | (with_reducible refine Kd.C_drew ?_))); (case side2 => exact HC222_0.out); rintro e w71 ⟨v224, rfl, ho0, hb⟩; refine ⟨_, rfl, ?_⟩; have n0_ := Aside0.mk (Kd.R_elder' (by (with_reducible repeat (first | apply Kd.R_alloc | apply Kd.R_drewN | apply Kd.R_drew)); exact HO_7.out) (Kd.R_base ho0) hb); have n1_ := Aside0.mk (Kd.N_elder' (by (with_reducible repeat (first | apply Kd.N_alloc | apply Kd.N_drewN | apply Kd.N_drew)); exact HO_10.out) (Kd.R_base ho0) hb); have n2_ := Aside0.mk (Kd.V_elder' (by (with_reducible repeat (first | apply Kd.V_alloc | apply Kd.V_drewN | apply Kd.V_drew)); exact HL221_0.out) (Kd.R_base ho0) hb); have n3_ := Aside0.mk (Kd.V_elder' (by (with_reducible repeat (first | apply Kd.V_alloc | apply Kd.V_drewN | apply Kd.V_drew)); exact HL222_0.out) (Kd.R_base ho0) hb); have n4_ := Aside0.mk (Kd.R_lower (Kd.R_new' (Kd.R_newM (M := fun k_ => (w.heap.size ≤ k_)) ho0 (below_size (by repeat (first | (with_reducible first | exact HB.out | apply below_alloc | apply pw_below_drewN | apply below_drew1) | exact HB.out))) (fun k_ h_ => h_)) (Kd.R_lt (by (with_reducible repeat (first | apply Kd.R_alloc | apply Kd.R_drewN | apply Kd.R_drew)); exact HO_7.out))) (below_size (by repeat (first | (with_reducible first | exact HB.out | apply below_alloc | apply pw_below_drewN | apply below_drew1) | exact HB.out)))); have n5_ := Aside0.mk (Kd.C_below (by repeat (first | (with_reducible exact HR221_0.out) | (with_reducible refine Kd.C_alloc ?_ _) | (with_reducible refine Kd.C_drewN ?_ _) | (with_reducible refine Kd.C_drew ?_) | exact HR221_0.out)) hb); have n6_ := Aside0.mk (Kd.C_below (by repeat (first | (with_reducible exact HR222_0.out) | (with_reducible refine Kd.C_alloc ?_ _) | (with_reducible refine Kd.C_drewN ?_ _) | (with_reducible refine Kd.C_drew ?_) | exact HR222_0.out)) hb); have n7_ := Aside0.mk (below_step (by repeat (first | (with_reducible first | exact HB.out | apply below_alloc | apply pw_below_drewN | apply below_drew1) | exact HB.out)) hb); clear HO_7; clear HO_10; clear HL221_0; clear HL222_0; clear HR221_0; clear HR222_0; clear HB; have HO_7 := n0_; have HO_10 := n1_; have HL221_0 := n2_; have HL222_0 := n3_; have HO225 := n4_; have HR221_0 := n5_; have HR222_0 := n6_; have HB := n7_; clear n0_ n1_ n2_ n3_ n4_ n5_ n6_ n7_; (try clear hb); (try clear hb2); (try clear hk); (try clear hi); (try clear ho0); obtain ⟨Ao72, co72, eo72⟩ := Kd.R_slice HO225.out; subst eo72; have p226 : 0 ≤ (x12_5 : Int) := of_decide_eq_true (by first | (with_reducible assumption) | assumption); have q226 : x12_5 < (t223.length : Int) := of_decide_eq_true (by first | (with_reducible assumption) | assumption); obtain ⟨ad226, e226, hx226_0, hx226_1, hx226_2, hx226_3⟩ := at_T39 (Kd.R_reads' HO225.out).2.2 x12_5 p226 q226; cases e226; replace p226 := eq_true p226; replace q226 := eq_true q226; have p227 : 0 ≤ (x12_5 : Int) := of_decide_eq_true (by first | (with_reducible assumption) | assumption); have q227 : x12_5 < (t223.length : Int) := of_decide_eq_true (by first | (with_reducible assumption) | assumption); obtain ⟨ad227, e227, hx227_0, hx227_1, hx227_2, hx227_3⟩ := at_T39 (Kd.R_reads' HO225.out).2.2 x12_5 p227 q227; obtain rfl : ad226 = ad227 := (by injection e227); replace p227 := eq_true p227; replace q227 := eq_true q227) | ((with_reducible refine gate_callee (f := 18) rfl ?_); refine goesL_ (some 92) rfl rfl Try.func18 (by kernel_rfl) rfl #[.agg #[.int .i64 ((rd_T39 t223 x12_5).f0), .int .i64 ((rd_T39 t223 x12_5).f1), .int .i64 ((rd_T39 t223 x12_5).f2), .int .i64 ((rd_T39 t223 x12_5).f3)]] rfl (by (try simp only [List.map_toArray, List.map_cons, List.map_nil]); first | done | rfl | (simp only [List.length_drop, List.length_take]; rfl)) ?_; (with_reducible refine (spec_ciGood.calls k5 ((rd_T39 t223 x12_5).f0) ((rd_T39 t223 x12_5).f1) ((rd_T39 t223 x12_5).f2) ((rd_T39 t223 x12_5).f3) false _ A53.out).mono ?_); rintro e w73 ⟨rfl, hb⟩; refine ⟨_, rfl, ?_⟩; have n0_ := Aside0.mk (Kd.R_below (by (with_reducible repeat (first | apply Kd.R_alloc | apply Kd.R_drewN | apply Kd.R_drew)); exact HO_7.out) hb); have n1_ := Aside0.mk (Kd.N_below (by (with_reducible repeat (first | apply Kd.N_alloc | apply Kd.N_drewN | apply Kd.N_drew)); exact HO_10.out) hb); have n2_ := Aside0.mk (Kd.V_below (by (with_reducible repeat (first | apply Kd.V_alloc | apply Kd.V_drewN | apply Kd.V_drew)); exact HL221_0.out) hb); have n3_ := Aside0.mk (Kd.V_below (by (with_reducible repeat (first | apply Kd.V_alloc | apply Kd.V_drewN | apply Kd.V_drew)); exact HL222_0.out) hb); have n4_ := Aside0.mk (Kd.R_below (by (with_reducible repeat (first | apply Kd.R_alloc | apply Kd.R_drewN | apply Kd.R_drew)); exact HO225.out) hb); have n5_ := Aside0.mk (Kd.C_below (by repeat (first | (with_reducible exact HR221_0.out) | (with_reducible refine Kd.C_alloc ?_ _) | (with_reducible refine Kd.C_drewN ?_ _) | (with_reducible refine Kd.C_drew ?_) | exact HR221_0.out)) hb); have n6_ := Aside0.mk (Kd.C_below (by repeat (first | (with_reducible exact HR222_0.out) | (with_reducible refine Kd.C_alloc ?_ _) | (with_reducible refine Kd.C_drewN ?_ _) | (with_reducible refine Kd.C_drew ?_) | exact HR222_0.out)) hb); have n7_ := Aside0.mk (below_step (by repeat (first | (with_reducible first | exact HB.out | apply below_alloc | apply pw_below_drewN | apply below_drew1) | exact HB.out)) hb); clear HO_7; clear HO_10; clear HL221_0; clear HL222_0; clear HO225; clear HR221_0; clear HR222_0; clear HB; have HO_7 := n0_; have HO_10 := n1_; have HL221_0 := n2_; have HL222_0 := n3_; have HO225 := n4_; have HR221_0 := n5_; have HR222_0 := n6_; have HB := n7_; clear n0_ n1_ n2_ n3_ n4_ n5_ n6_ n7_; (try clear hb); (try clear hb2); (try clear hk); (try clear hi)))
                                              go_ret2
                                              exact ⟨_, by first | rfl | (simp [errW_none, errW_some] <;> rfl) | (simp [*, errW_none, errW_some] <;> rfl), by first | exact Kd.R_nil _ _ _ _ _ | exact Kd.N_nil _ _ _ _ _ | exact Kd.V_nil _ _ _ _ _ | exact Kd.Q_nil _ _ _ _ _ | exact Kd.S_nil _ _ _ _ _, by repeat (first | (with_reducible first | exact HB.out | apply below_alloc | apply pw_below_drewN | apply below_drew1) | exact HB.out)⟩
                                        · rw [if_neg c48] at H
                                          exact absurd H (by simp)
                                      · rw [if_neg c47] at H
                                        exact absurd H (by simp)
                                  · rw [if_neg c43] at H
                                    exact absurd H (by simp)
                                · rw [if_neg c42] at H
                                  exact absurd H (by simp)
                              · rw [if_neg c41] at H
                                have c41b0 : decide (x12_5 < 4) = false := decide_eq_false c41
                                clear c41
                                have H' := Aside0.mk H
                                clear H
                                go_wp2
                                go_roundg k5
                                case measure => have := HJ2.out; have := HJ10.out; have := HK3.out; have := HK4.out; have := HK5.out; omega
                                case rel => exact ⟨(x7_5), (x10_5), (wrap64 (x11_4 + 1)), (by first | rfl | (simp; done) | (simp [*]; done)), H', ⟨by have := HJ2.out; have := HJ10.out; have := HK3.out; have := HK4.out; have := HK5.out; omega⟩, ⟨by (with_reducible repeat (first | apply Kd.R_alloc | apply Kd.R_drewN | apply Kd.R_drew)); exact HO_7.out⟩, ⟨by (with_reducible repeat (first | apply Kd.N_alloc | apply Kd.N_drewN | apply Kd.N_drew)); exact HO_10.out⟩, ⟨by repeat (first | (with_reducible first | exact HB.out | apply below_alloc | apply pw_below_drewN | apply below_drew1) | exact HB.out)⟩⟩
                        · rw [if_neg c39] at H
                          have c39b0 : decide (x11_4 < (x10_4.length : Int)) = false := decide_eq_false c39
                          clear c39
                          simp only [Option.some.injEq, Prod.mk.injEq] at H
                          obtain ⟨rfl, rfl⟩ := H
                          obtain ⟨Ao74, co74, eo74⟩ := Kd.N_slice HO_10.out
                          subst eo74
                          go_wp2
                          go_ret2
                          exact ⟨_, by first | rfl | (simp [errW_none, errW_some] <;> rfl) | (simp [*, errW_none, errW_some] <;> rfl), by (with_reducible repeat (first | apply Kd.R_alloc | apply Kd.R_drewN | apply Kd.R_drew)); exact HO_7.out, by repeat (first | (with_reducible first | exact HB.out | apply below_alloc | apply pw_below_drewN | apply below_drew1) | exact HB.out)⟩

end Go.Proofs.Ytdjfcddmbhfpnaa.P
