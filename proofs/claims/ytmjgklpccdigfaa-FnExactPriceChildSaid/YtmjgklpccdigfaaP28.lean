/- Written by a program of this session: for Go functions that a statement reaches, Lean functions with the same answers and the proofs that the calls come to them; conditions: none but the arguments' kinds. -/
import Derived.Test.YtmjgklpccdigfaaP0
import Derived.Test.YtmjgklpccdigfaaP1
import Derived.Test.YtmjgklpccdigfaaP2
import Derived.Test.YtmjgklpccdigfaaP4
import Derived.Test.YtmjgklpccdigfaaP5
import Derived.Test.YtmjgklpccdigfaaP7
import Derived.Test.YtmjgklpccdigfaaP12
import Derived.Test.YtmjgklpccdigfaaP14
import Derived.Test.YtmjgklpccdigfaaP15
namespace Go.Proofs.Ytmjgklpccdigfaa.P
open Go.RowKit Go.Proofs.YtmjgklpccdigfaaW.PrintWords Go.Proofs.YtmjgklpccdigfaaW.PrintLast Go.Proofs.YtmjgklpccdigfaaW.PrintMore
attribute [local go_sem] max2_int min2_int max_two min_two max_three min_three max_four min_four   -- for this text's walks alone
set_option linter.unusedVariables false
set_option linter.unusedSimpArgs false

/-! ### spec_riIf: function 66 -/
def spec_riIf.f (k : Nat) (a0 : Int) (a1 : Int) : Option (List Int × Bool) := (spec_riPair.f k a0 a1).bind fun t416 => (if t416 = true then ((spec_riOf.f a0 a1).bind fun t417 => (some (t417, true))) else (some (([] : List Int), false)))
theorem spec_riIf.mono : ∀ a0 a1 k, LeO (spec_riIf.f k a0 a1) (spec_riIf.f (k + 1) a0 a1) := by
  intro a0 a1 k
  unfold spec_riIf.f
  repeat' first
      | (with_reducible exact spec_riPair.mono _ _ _)
      | (with_reducible exact LeO.refl _)
      | (with_reducible exact LeO.none _)
      | (with_reducible refine LeO.ite ?_ ?_)
      | (with_reducible refine LeO.bind ?_ (fun _ => ?_))
      | exact spec_riPair.mono _ _ _
      | exact LeO.none _
      | refine LeO.ite ?_ ?_
      | refine LeO.bind ?_ (fun _ => ?_)
set_option maxHeartbeats 8000000 in
set_option maxRecDepth 100000 in
theorem spec_riIf.calls (k : Nat) (a0 : Int) (a1 : Int) (r1 : List Int) (r2 : Bool) (w : World) (h : spec_riIf.f k a0 a1 = some (r1, r2)) :
    Calls Try.prog 66 #[.int .i64 a0, .int .i64 a1] w fun e w' => ∃ v0_ : Value, e = .returned (.tuple #[v0_, .bool r2]) ∧ Kd.R (Kd.int .i64) 3 w' w.heap.size (fun _ => True) v0_ r1 ∧ Below w.heap.size w w' := by
  have HB := Aside0.mk (Below.refl w.heap.size w)
  have H : ((spec_riPair.f k a0 a1).bind fun t416 => (if t416 = true then ((spec_riOf.f a0 a1).bind fun t417 => (some (t417, true))) else (some (([] : List Int), false)))) = some (r1, r2) := h
  clear h
  replace H := Option.bind_eq_some_iff.mp H
  obtain ⟨t416, A30, H⟩ := H
  replace H : (if t416 = true then ((spec_riOf.f a0 a1).bind fun t417 => (some (t417, true))) else (some (([] : List Int), false))) = some (r1, r2) := H
  have A3 := Aside0.mk A30
  clear A30
  by_cases c4 : t416 = true
  · subst c4
    have H1 : ((spec_riOf.f a0 a1).bind fun t417 => (some (t417, true))) = some (r1, r2) := by rw [if_pos rfl] at H; exact H
    clear H
    have H := H1
    clear H1
    replace H := Option.bind_eq_some_iff.mp H
    obtain ⟨t417, A50, H⟩ := H
    replace H : (some (t417, true)) = some (r1, r2) := H
    have A5 := Aside0.mk A50
    clear A50
    simp only [Option.some.injEq, Prod.mk.injEq] at H
    obtain ⟨rfl, rfl⟩ := H
    go_enter Try.func66, Try.ntmps66
    go_wp2_with (first | ((with_reducible refine gate_callee (f := 56) rfl ?_); refine goesL_ (some 8) rfl rfl Try.func56 (by kernel_rfl) rfl #[.int .i64 a0, .int .i64 a1] rfl (by (try simp only [List.map_toArray, List.map_cons, List.map_nil]); first | done | rfl | (simp only [List.length_drop, List.length_take]; rfl)) ?_; (with_reducible refine (spec_riPair.calls k a0 a1 true _ A3.out).mono ?_); rintro e w' ⟨rfl, ⟨nd, rfl⟩⟩; refine ⟨_, rfl, ?_⟩) | ((with_reducible refine gate_callee (f := 57) rfl ?_); refine goesL_ (some 12) rfl rfl Try.func57 (by kernel_rfl) rfl #[.int .i64 a0, .int .i64 a1] rfl (by (try simp only [List.map_toArray, List.map_cons, List.map_nil]); first | done | rfl | (simp only [List.length_drop, List.length_take]; rfl)) ?_; (with_reducible refine (spec_riOf.calls a0 a1 t417 _ A5.out).mono ?_); rintro e w6 ⟨v418, rfl, ho0, hb⟩; refine ⟨_, rfl, ?_⟩; have n0_ := Aside0.mk (Kd.R_lower ho0 (below_size (by repeat (first | (with_reducible first | exact HB.out | apply below_alloc | apply pw_below_drewN | apply below_drew1) | exact HB.out)))); have n1_ := Aside0.mk (below_step (by repeat (first | (with_reducible first | exact HB.out | apply below_alloc | apply pw_below_drewN | apply below_drew1) | exact HB.out)) hb); clear HB; have HO419 := n0_; have HB := n1_; clear n0_ n1_; (try clear hb); (try clear hb2); (try clear hk); (try clear hi); (try clear ho0)))
    go_ret2
    exact ⟨_, by first | rfl | (simp [errW_none, errW_some] <;> rfl) | (simp [*, errW_none, errW_some] <;> rfl), by (with_reducible repeat (first | apply Kd.R_alloc | apply Kd.R_drewN | apply Kd.R_drew)); exact HO419.out, by repeat (first | (with_reducible first | exact HB.out | apply below_alloc | apply pw_below_drewN | apply below_drew1) | exact HB.out)⟩
  · replace c4 := Bool.eq_false_iff.mpr c4
    subst c4
    have H1 : (some (([] : List Int), false)) = some (r1, r2) := by rw [if_neg (show ¬ (false = true) by decide)] at H; exact H
    clear H
    have H := H1
    clear H1
    simp only [Option.some.injEq, Prod.mk.injEq] at H
    obtain ⟨rfl, rfl⟩ := H
    go_enter Try.func66, Try.ntmps66
    go_wp2_with (first | ((with_reducible refine gate_callee (f := 56) rfl ?_); refine goesL_ (some 8) rfl rfl Try.func56 (by kernel_rfl) rfl #[.int .i64 a0, .int .i64 a1] rfl (by (try simp only [List.map_toArray, List.map_cons, List.map_nil]); first | done | rfl | (simp only [List.length_drop, List.length_take]; rfl)) ?_; (with_reducible refine (spec_riPair.calls k a0 a1 false _ A3.out).mono ?_); rintro e w' ⟨rfl, ⟨nd, rfl⟩⟩; refine ⟨_, rfl, ?_⟩))
    go_ret2
    exact ⟨_, by first | rfl | (simp [errW_none, errW_some] <;> rfl) | (simp [*, errW_none, errW_some] <;> rfl), by first | exact Kd.R_nil _ _ _ _ _ | exact Kd.N_nil _ _ _ _ _ | exact Kd.V_nil _ _ _ _ _ | exact Kd.Q_nil _ _ _ _ _ | exact Kd.S_nil _ _ _ _ _, by repeat (first | (with_reducible first | exact HB.out | apply below_alloc | apply pw_below_drewN | apply below_drew1) | exact HB.out)⟩

/-! ### spec_BergChild: function 34 -/
def spec_BergChild.j0 : Nat → List Int → Int → Bool → Option (List Int × Bool)
  | 0, _, _, _ => none
  | k + 1, x0, x1, x17 => if x17 = true then (some (([] : List Int), false)) else ((spec_riBack.f k x0).bind fun bt422 => ((spec_riBerg.f bt422.1 bt422.2 x1).bind fun bt424 => ((spec_riIf.f k bt424.1 bt424.2).bind fun bt426 => (some (bt426.1, bt426.2)))))
def spec_BergChild.f (k : Nat) (l0 : List Int) (a1 : Int) : Option (List Int × Bool) := (spec_riGood.f k l0).bind fun t420 => (if t420 = true then ((spec_l1In.f a1 0 2).bind fun t421 => (spec_BergChild.j0 k l0 a1 (!t421))) else (spec_BergChild.j0 k l0 a1 true))
theorem spec_BergChild.mono_l : ∀ k, (∀ y0 y1 y2, LeO (spec_BergChild.j0 k y0 y1 y2) (spec_BergChild.j0 (k + 1) y0 y1 y2))
  | 0 => fun _ _ _ r h => by simp [spec_BergChild.j0] at h
  | k + 1 => by
    have ih0 := spec_BergChild.mono_l k
    · intro y0 y1 y2
      unfold spec_BergChild.j0
      repeat' first
      | (with_reducible exact ih0 _ _ _)
      | (with_reducible exact spec_riBack.mono _ _)
      | (with_reducible exact spec_riGood.mono _ _)
      | (with_reducible exact spec_riIf.mono _ _ _)
      | (with_reducible exact LeO.refl _)
      | (with_reducible exact LeO.none _)
      | (with_reducible refine LeO.ite ?_ ?_)
      | (with_reducible refine LeO.bind ?_ (fun _ => ?_))
      | exact ih0 _ _ _
      | exact spec_riBack.mono _ _
      | exact spec_riGood.mono _ _
      | exact spec_riIf.mono _ _ _
      | exact LeO.none _
      | refine LeO.ite ?_ ?_
      | refine LeO.bind ?_ (fun _ => ?_)
theorem spec_BergChild.mono : ∀ a0 a1 k, LeO (spec_BergChild.f k a0 a1) (spec_BergChild.f (k + 1) a0 a1) := by
  intro a0 a1 k
  have ih0 := spec_BergChild.mono_l k
  unfold spec_BergChild.f
  repeat' first
      | (with_reducible exact ih0 _ _ _)
      | (with_reducible exact spec_riBack.mono _ _)
      | (with_reducible exact spec_riGood.mono _ _)
      | (with_reducible exact spec_riIf.mono _ _ _)
      | (with_reducible exact LeO.refl _)
      | (with_reducible exact LeO.none _)
      | (with_reducible refine LeO.ite ?_ ?_)
      | (with_reducible refine LeO.bind ?_ (fun _ => ?_))
      | exact ih0 _ _ _
      | exact spec_riBack.mono _ _
      | exact spec_riGood.mono _ _
      | exact spec_riIf.mono _ _ _
      | exact LeO.none _
      | refine LeO.ite ?_ ?_
      | refine LeO.bind ?_ (fun _ => ?_)
set_option maxHeartbeats 8000000 in
set_option maxRecDepth 100000 in
theorem spec_BergChild.calls (k : Nat) (A0 : Option Addr) (c0 : Nat) (l0 : List Int) (a1 : Int) (r1 : List Int) (r2 : Bool) (w : World) (hr0 : Kd.C (Kd.int .i64) w A0 l0.length l0) (hc0 : l0.length ≤ c0) (h : spec_BergChild.f k l0 a1 = some (r1, r2)) :
    Calls Try.prog 34 #[.slice A0 l0.length c0, .int .i64 a1] w fun e w' => ∃ v0_ : Value, e = .returned (.tuple #[v0_, .bool r2]) ∧ Kd.R (Kd.int .i64) 3 w' w.heap.size (fun _ => True) v0_ r1 ∧ Below w.heap.size w w' := by
  have HR0 := Aside0.mk hr0
  have HC0 := Aside0.mk hc0
  clear hr0 hc0
  have HB := Aside0.mk (Below.refl w.heap.size w)
  have H : ((spec_riGood.f k l0).bind fun t420 => (if t420 = true then ((spec_l1In.f a1 0 2).bind fun t421 => (spec_BergChild.j0 k l0 a1 (!t421))) else (spec_BergChild.j0 k l0 a1 true))) = some (r1, r2) := h
  clear h
  have HC3 := Aside0.mk H
  clear H
  go_enter Try.func34, Try.ntmps34
  go_upto_region 1 with (fail)
  go_cut [17] (fun v17 wc => ∃ (kq : Nat) (x17_2 : Bool), v17 = .bool x17_2 ∧ Aside0 (spec_BergChild.j0 kq l0 a1 x17_2 = some (r1, r2)) ∧ Aside0 (kq ≤ k) ∧ Aside0 (Below w.heap.size w wc))
  case first =>
    have H := HC3.out
    clear HC3
    replace H := Option.bind_eq_some_iff.mp H
    obtain ⟨t420, A40, H⟩ := H
    replace H : (if t420 = true then ((spec_l1In.f a1 0 2).bind fun t421 => (spec_BergChild.j0 k l0 a1 (!t421))) else (spec_BergChild.j0 k l0 a1 true)) = some (r1, r2) := H
    have A4 := Aside0.mk A40
    clear A40
    by_cases c5 : t420 = true
    · subst c5
      have H1 : ((spec_l1In.f a1 0 2).bind fun t421 => (spec_BergChild.j0 k l0 a1 (!t421))) = some (r1, r2) := by rw [if_pos rfl] at H; exact H
      clear H
      have H := H1
      clear H1
      replace H := Option.bind_eq_some_iff.mp H
      obtain ⟨t421, A60, H⟩ := H
      replace H : (spec_BergChild.j0 k l0 a1 (!t421)) = some (r1, r2) := H
      have A6 := Aside0.mk A60
      clear A60
      have H' := Aside0.mk H
      clear H
      go_wp2_with (first | ((with_reducible refine gate_callee (f := 49) rfl ?_); refine goesL_ (some 11) rfl rfl Try.func49 (by kernel_rfl) rfl #[.slice A0 l0.length c0] rfl (by (try simp only [List.map_toArray, List.map_cons, List.map_nil]); first | done | rfl | (simp only [List.length_drop, List.length_take]; rfl)) ?_; (with_reducible refine (spec_riGood.calls k _ _ l0 true _ ?side1 ?side2 A4.out).mono ?_); (case side1 => repeat (first | exact (Kd.C_below HR0.out HB.out) | (with_reducible refine Kd.C_alloc ?_ _) | (with_reducible refine Kd.C_drewN ?_ _) | (with_reducible refine Kd.C_drew ?_))); (case side2 => exact HC0.out); rintro e w7 ⟨rfl, hb⟩; refine ⟨_, rfl, ?_⟩; have n0_ := Aside0.mk (below_step (by repeat (first | (with_reducible first | exact HB.out | apply below_alloc | apply pw_below_drewN | apply below_drew1) | exact HB.out)) hb); clear HB; have HB := n0_; clear n0_; (try clear hb); (try clear hb2); (try clear hk); (try clear hi)) | (go_at_call 65; (with_reducible refine (spec_l1In.calls a1 0 2 t421 _ A6.out).mono ?_); rintro e w' ⟨rfl, ⟨nd, rfl⟩⟩))
      go_meet
      case rel => exact ⟨_, (!t421), (by first | rfl | (simp; done) | (simp [*]; done)), H', ⟨by first | omega | exact Nat.le_refl _⟩, ⟨by repeat (first | (with_reducible first | exact HB.out | apply below_alloc | apply pw_below_drewN | apply below_drew1) | exact HB.out)⟩⟩
    · replace c5 := Bool.eq_false_iff.mpr c5
      subst c5
      have H1 : (spec_BergChild.j0 k l0 a1 true) = some (r1, r2) := by rw [if_neg (show ¬ (false = true) by decide)] at H; exact H
      clear H
      have H := H1
      clear H1
      have H' := Aside0.mk H
      clear H
      go_wp2_with (first | ((with_reducible refine gate_callee (f := 49) rfl ?_); refine goesL_ (some 11) rfl rfl Try.func49 (by kernel_rfl) rfl #[.slice A0 l0.length c0] rfl (by (try simp only [List.map_toArray, List.map_cons, List.map_nil]); first | done | rfl | (simp only [List.length_drop, List.length_take]; rfl)) ?_; (with_reducible refine (spec_riGood.calls k _ _ l0 false _ ?side1 ?side2 A4.out).mono ?_); (case side1 => repeat (first | exact (Kd.C_below HR0.out HB.out) | (with_reducible refine Kd.C_alloc ?_ _) | (with_reducible refine Kd.C_drewN ?_ _) | (with_reducible refine Kd.C_drew ?_))); (case side2 => exact HC0.out); rintro e w8 ⟨rfl, hb⟩; refine ⟨_, rfl, ?_⟩; have n0_ := Aside0.mk (below_step (by repeat (first | (with_reducible first | exact HB.out | apply below_alloc | apply pw_below_drewN | apply below_drew1) | exact HB.out)) hb); clear HB; have HB := n0_; clear n0_; (try clear hb); (try clear hb2); (try clear hk); (try clear hi)))
      go_meet
      case rel => exact ⟨_, (true), (by first | rfl | (simp; done) | (simp [*]; done)), H', ⟨by first | omega | exact Nat.le_refl _⟩, ⟨by repeat (first | (with_reducible first | exact HB.out | apply below_alloc | apply pw_below_drewN | apply below_drew1) | exact HB.out)⟩⟩
  case rest =>
    clear HC3
    try clear p2
    try clear c3
    try clear c4
    try clear c5
    obtain ⟨kq, x17_2, rfl, HA, HJ2, HB⟩ := hcut
    cases kq with
    | zero => exact absurd HA.out (by simp [spec_BergChild.j0])
    | succ kj2 =>
      have H := HA.out
      clear HA
      simp only [spec_BergChild.j0] at H
      by_cases c9 : x17_2 = true
      · subst c9
        have H1 : (some (([] : List Int), false)) = some (r1, r2) := by rw [if_pos rfl] at H; exact H
        clear H
        have H := H1
        clear H1
        simp only [Option.some.injEq, Prod.mk.injEq] at H
        obtain ⟨rfl, rfl⟩ := H
        go_wp2
        go_ret2
        exact ⟨_, by first | rfl | (simp [errW_none, errW_some] <;> rfl) | (simp [*, errW_none, errW_some] <;> rfl), by first | exact Kd.R_nil _ _ _ _ _ | exact Kd.N_nil _ _ _ _ _ | exact Kd.V_nil _ _ _ _ _ | exact Kd.Q_nil _ _ _ _ _ | exact Kd.S_nil _ _ _ _ _, by repeat (first | (with_reducible first | exact HB.out | apply below_alloc | apply pw_below_drewN | apply below_drew1) | exact HB.out)⟩
      · replace c9 := Bool.eq_false_iff.mpr c9
        subst c9
        have H1 : ((spec_riBack.f kj2 l0).bind fun bt422 => ((spec_riBerg.f bt422.1 bt422.2 a1).bind fun bt424 => ((spec_riIf.f kj2 bt424.1 bt424.2).bind fun bt426 => (some (bt426.1, bt426.2))))) = some (r1, r2) := by rw [if_neg (show ¬ (false = true) by decide)] at H; exact H
        clear H
        have H := H1
        clear H1
        replace H := Option.bind_eq_some_iff.mp H
        obtain ⟨⟨t422, t423⟩, A100, H⟩ := H
        replace H : ((spec_riBerg.f t422 t423 a1).bind fun bt424 => ((spec_riIf.f kj2 bt424.1 bt424.2).bind fun bt426 => (some (bt426.1, bt426.2)))) = some (r1, r2) := H
        have A10 := Aside0.mk A100
        clear A100
        replace H := Option.bind_eq_some_iff.mp H
        obtain ⟨⟨t424, t425⟩, A110, H⟩ := H
        replace H : ((spec_riIf.f kj2 t424 t425).bind fun bt426 => (some (bt426.1, bt426.2))) = some (r1, r2) := H
        have A11 := Aside0.mk A110
        clear A110
        replace H := Option.bind_eq_some_iff.mp H
        obtain ⟨⟨t426, t427⟩, A120, H⟩ := H
        replace H : (some (t426, t427)) = some (r1, r2) := H
        have A12 := Aside0.mk A120
        clear A120
        simp only [Option.some.injEq, Prod.mk.injEq] at H
        obtain ⟨rfl, rfl⟩ := H
        go_wp2_with (first | ((with_reducible refine gate_callee (f := 52) rfl ?_); refine goesL_ (some 20) rfl rfl Try.func52 (by kernel_rfl) rfl #[.slice A0 l0.length c0] rfl (by (try simp only [List.map_toArray, List.map_cons, List.map_nil]); first | done | rfl | (simp only [List.length_drop, List.length_take]; rfl)) ?_; (with_reducible refine (spec_riBack.calls kj2 _ _ l0 t422 t423 _ ?side1 ?side2 A10.out).mono ?_); (case side1 => repeat (first | exact (Kd.C_below HR0.out HB.out) | (with_reducible refine Kd.C_alloc ?_ _) | (with_reducible refine Kd.C_drewN ?_ _) | (with_reducible refine Kd.C_drew ?_))); (case side2 => exact HC0.out); rintro e w' ⟨rfl, ⟨nd, rfl⟩⟩; refine ⟨_, rfl, ?_⟩) | ((with_reducible refine gate_callee (f := 55) rfl ?_); refine goesL_ (some 27) rfl rfl Try.func55 (by kernel_rfl) rfl #[.int .i64 t422, .int .i64 t423, .int .i64 a1] rfl (by (try simp only [List.map_toArray, List.map_cons, List.map_nil]); first | done | rfl | (simp only [List.length_drop, List.length_take]; rfl)) ?_; (with_reducible refine (spec_riBerg.calls t422 t423 a1 t424 t425 _ A11.out).mono ?_); rintro e w' ⟨rfl, ⟨nd, rfl⟩⟩; refine ⟨_, rfl, ?_⟩) | ((with_reducible refine gate_callee (f := 66) rfl ?_); refine goesL_ (some 32) rfl rfl Try.func66 (by kernel_rfl) rfl #[.int .i64 t424, .int .i64 t425] rfl (by (try simp only [List.map_toArray, List.map_cons, List.map_nil]); first | done | rfl | (simp only [List.length_drop, List.length_take]; rfl)) ?_; (with_reducible refine (spec_riIf.calls kj2 t424 t425 t426 t427 _ A12.out).mono ?_); rintro e w13 ⟨v428, rfl, ho0, hb⟩; refine ⟨_, rfl, ?_⟩; have n0_ := Aside0.mk (Kd.R_lower ho0 (below_size (by repeat (first | (with_reducible first | exact HB.out | apply below_alloc | apply pw_below_drewN | apply below_drew1) | exact HB.out)))); have n1_ := Aside0.mk (below_step (by repeat (first | (with_reducible first | exact HB.out | apply below_alloc | apply pw_below_drewN | apply below_drew1) | exact HB.out)) hb); clear HB; have HO429 := n0_; have HB := n1_; clear n0_ n1_; (try clear hb); (try clear hb2); (try clear hk); (try clear hi); (try clear ho0)))
        go_ret2
        exact ⟨_, by first | rfl | (simp [errW_none, errW_some] <;> rfl) | (simp [*, errW_none, errW_some] <;> rfl), by (with_reducible repeat (first | apply Kd.R_alloc | apply Kd.R_drewN | apply Kd.R_drew)); exact HO429.out, by repeat (first | (with_reducible first | exact HB.out | apply below_alloc | apply pw_below_drewN | apply below_drew1) | exact HB.out)⟩

/-! ### impl_tree_childOf: function 67 -/
def childF (cf : Int → Int → Int → Option (Int × Int)) (k : Nat) (l0 : List Int) (a1 : Int) : Option (List Int × Bool) :=
  (impl_IsRight.f k l0).bind fun t => if t = true then ((impl_within.f a1 0 2).bind fun u => if u = true then ((impl_pairOf.f k l0).bind fun p => (cf p.1 p.2 a1).bind fun q => impl_pair_right.f q.1 q.2) else some ([], false)) else some ([], false)
theorem childF.mono (cf : Int → Int → Int → Option (Int × Int)) : ∀ a0 a1 k, LeO (childF cf k a0 a1) (childF cf (k + 1) a0 a1) := by
  intro a0 a1 k
  unfold childF
  repeat' first
      | (with_reducible exact impl_IsRight.mono _ _)
      | (with_reducible exact impl_pairOf.mono _ _)
      | (with_reducible exact LeO.refl _)
      | (with_reducible refine LeO.ite ?_ ?_)
      | (with_reducible refine LeO.bind ?_ (fun _ => ?_))
set_option maxHeartbeats 8000000 in
set_option maxRecDepth 100000 in
theorem impl_tree_childOf.calls (g1 g2 : Nat) (eg : ∀ args w, (callFunc g1 args).run Try.prog w = .ok (.enter g1 args) w) (cf : Int → Int → Int → Option (Int × Int))
    (hcf : ∀ (m n k a b : Int) (W : World), cf m n k = some (a, b) → Calls Try.prog g1 #[.agg #[.int .i64 m, .int .i64 n], .int .i64 k] W fun e w' => e = .returned (.agg #[.int .i64 a, .int .i64 b]) ∧ Below W.heap.size W w')
    (k : Nat) (A0 : Option Addr) (c0 : Nat) (l0 : List Int) (a1 : Int) (r1 : List Int) (r2 : Bool) (w : World) (hr0 : Kd.C (Kd.int .i64) w A0 l0.length l0) (hc0 : l0.length ≤ c0) (h : childF cf k l0 a1 = some (r1, r2)) :
    Calls Try.prog 67 #[.agg #[.func (.func g1) #[] #[], .func (.func g2) #[] #[]], .slice A0 l0.length c0, .int .i64 a1] w fun e w' => ∃ v0_ : Value, e = .returned (.tuple #[v0_, .bool r2]) ∧ Kd.R (Kd.int .i64) 3 w' w.heap.size (fun _ => True) v0_ r1 ∧ Below w.heap.size w w' := by
  have hu := Try.underlying57
  have HR0 := Aside0.mk hr0
  have HC0 := Aside0.mk hc0
  have HCF := Aside0.mk hcf
  clear hr0 hc0 hcf
  obtain ⟨t, h1, h⟩ := Option.bind_eq_some_iff.mp h
  replace h1 := Aside0.mk h1
  have HW0 := Aside0.mk (below_alloc (Below.refl w.heap.size w) (.cells #[.func (.func g1) #[] #[], .func (.func g2) #[] #[]] 57))
  cases t with
  | false =>
    rw [if_neg (by decide)] at h
    simp only [Option.some.injEq, Prod.mk.injEq] at h
    obtain ⟨rfl, rfl⟩ := h
    go_enter Try.func67, Try.ntmps67
    go_wp2_with fail
    refine (impl_IsRight.calls k _ _ l0 false _ (Kd.C_below HR0.out HW0.out) HC0.out h1.out).mono ?_
    rintro e w1 ⟨rfl, hb1⟩
    have HB1 := Aside0.mk (below_step HW0.out hb1)
    clear hb1
    go_wp2
    go_ret2
    exact ⟨_, rfl, Kd.R_nil _ _ _ _ _, HB1.out⟩
  | true =>
    rw [if_pos rfl] at h
    obtain ⟨u, h2, h⟩ := Option.bind_eq_some_iff.mp h
    replace h2 := Aside0.mk h2
    cases u with
    | false =>
      rw [if_neg (by decide)] at h
      simp only [Option.some.injEq, Prod.mk.injEq] at h
      obtain ⟨rfl, rfl⟩ := h
      go_enter Try.func67, Try.ntmps67
      go_wp2_with fail
      refine (impl_IsRight.calls k _ _ l0 true _ (Kd.C_below HR0.out HW0.out) HC0.out h1.out).mono ?_
      rintro e w1 ⟨rfl, hb1⟩
      have HB1 := Aside0.mk (below_step HW0.out hb1)
      clear hb1
      go_wp2_with (go_at_call 70; (with_reducible refine (impl_within.calls a1 0 2 false _ h2.out).mono ?_); rintro e w' ⟨rfl, ⟨nd, rfl⟩⟩)
      go_ret2
      exact ⟨_, rfl, Kd.R_nil _ _ _ _ _, by repeat (first | exact HB1.out | apply pw_below_drewN)⟩
    | true =>
      rw [if_pos rfl] at h
      obtain ⟨⟨pm, pn⟩, h3, h⟩ := Option.bind_eq_some_iff.mp h
      obtain ⟨⟨qm, qn⟩, h4, h⟩ := Option.bind_eq_some_iff.mp h
      replace h3 := Aside0.mk h3
      replace h4 := Aside0.mk h4
      replace h := Aside0.mk h
      go_enter Try.func67, Try.ntmps67
      go_wp2_with fail
      refine (impl_IsRight.calls k _ _ l0 true _ (Kd.C_below HR0.out HW0.out) HC0.out h1.out).mono ?_
      rintro e w1 ⟨rfl, hb1⟩
      have HB1 := Aside0.mk (below_step HW0.out hb1)
      have hc1 : w1.cell? ⟨w.heap.size, 0, none⟩ = some (.func (.func g1) #[] #[]) := (hb1.cell (p := ⟨w.heap.size, 0, none⟩) (by simp)).trans (by simp)
      have HN1 := Aside0.mk (show w.heap.size < w1.heap.size from Nat.lt_of_lt_of_le (by simp) hb1.size)
      clear hb1
      go_wp2_with (go_at_call 70; (with_reducible refine (impl_within.calls a1 0 2 true _ h2.out).mono ?_); rintro e w' ⟨rfl, ⟨nd, rfl⟩⟩)
      have hpo : ∀ W, Below w.heap.size w W → W.cell? ⟨w.heap.size, 0, none⟩ = some (.func (.func g1) #[] #[]) → Calls Try.prog 53 #[.slice A0 l0.length c0] W fun e w' => e = .returned (.agg #[.int .i64 pm, .int .i64 pn]) ∧ Below w.heap.size w w' ∧ w'.cell? ⟨w.heap.size, 0, none⟩ = some (.func (.func g1) #[] #[]) := fun W hW hc => (impl_pairOf.calls k _ _ l0 pm pn _ (Kd.C_below HR0.out hW) HC0.out h3.out).mono fun e w' ⟨he, hb⟩ => ⟨he, below_step hW hb, (hb.cell (World.block_lt_of_cell? _ _ hc)).trans hc⟩
      have hch : ∀ W, Below w.heap.size w W → W.cell? ⟨w.heap.size, 0, none⟩ = some (.func (.func g1) #[] #[]) → Calls Try.prog g1 #[.agg #[.int .i64 pm, .int .i64 pn], .int .i64 a1] W fun e w' => e = .returned (.agg #[.int .i64 qm, .int .i64 qn]) ∧ Below w.heap.size w w' ∧ w'.cell? ⟨w.heap.size, 0, none⟩ = some (.func (.func g1) #[] #[]) := fun W hW hc => (HCF.out pm pn a1 qm qn _ h4.out).mono fun e w' ⟨he, hb⟩ => ⟨he, below_step hW hb, (hb.cell (World.block_lt_of_cell? _ _ hc)).trans hc⟩
      have hri : ∀ W, Below w.heap.size w W → W.cell? ⟨w.heap.size, 0, none⟩ = some (.func (.func g1) #[] #[]) → Calls Try.prog 72 #[.agg #[.int .i64 qm, .int .i64 qn]] W fun e w' => ∃ v, e = .returned (.tuple #[v, .bool r2]) ∧ (Kd.R (Kd.int .i64) 3 w' w.heap.size (fun _ => True) v r1) ∧ Below w.heap.size w w' ∧ w'.cell? ⟨w.heap.size, 0, none⟩ = some (.func (.func g1) #[] #[]) := fun W hW hc => (impl_pair_right.calls qm qn r1 r2 _ h.out).mono fun e w' ⟨v, he, hr, hb⟩ => ⟨v, he, Kd.R_lower hr hW.size, below_step hW hb, (hb.cell (World.block_lt_of_cell? _ _ hc)).trans hc⟩
      replace hpo := Aside0.mk hpo
      replace hch := Aside0.mk hch
      replace hri := Aside0.mk hri
      go_region_held3 (fun w' => w'.cell? ⟨w.heap.size, 0, none⟩ = some (.func (.func g1) #[] #[])) (first | go_keep | assumption) (first | (go_at_call 53; refine (hpo.out _ (pw_below_drewN (below_drew HB1.out) _) (by assumption)).mono ?_; rintro e w2 ⟨rfl, hb2, hc2⟩; replace hb2 := Aside0.mk hb2) | (go_at_call 53; refine (hpo.out _ (below_drew (pw_below_drewN HB1.out _)) (by assumption)).mono ?_; rintro e w2 ⟨rfl, hb2, hc2⟩; replace hb2 := Aside0.mk hb2) | (refine (hch.out _ (by first | exact hb2.out | exact below_drew hb2.out) (by assumption)).mono ?_; rintro e w3 ⟨rfl, hb3, hc3⟩; replace hb3 := Aside0.mk hb3) | (go_at_call 72; refine (hri.out _ (by first | exact hb3.out | exact below_drew hb3.out) (by assumption)).mono ?_; rintro e w4 ⟨v4, rfl, hr4, hb4, hc4⟩; replace hb4 := Aside0.mk hb4; replace hr4 := Aside0.mk hr4))
      go_wp2
      go_ret2
      exact ⟨_, rfl, hr4.out, hb4.out⟩

end Go.Proofs.Ytmjgklpccdigfaa.P
