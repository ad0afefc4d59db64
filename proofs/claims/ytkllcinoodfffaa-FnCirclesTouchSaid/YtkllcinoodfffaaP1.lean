/- Written by a program of this session: for Go functions that a statement reaches, Lean functions with the same answers and the proofs that the calls come to them; conditions: none but the arguments' kinds. -/
import Derived.Test.YtkllcinoodfffaaP0
namespace Go.Proofs.Ytkllcinoodfffaa.P
open Go.RowKit Go.Proofs.YtkllcinoodfffaaW.PrintWords Go.Proofs.YtkllcinoodfffaaW.PrintLast Go.Proofs.YtkllcinoodfffaaW.PrintMore
attribute [local go_sem] max2_int min2_int max_two min_two max_three min_three max_four min_four   -- for this text's walks alone
set_option linter.unusedVariables false
set_option linter.unusedSimpArgs false

/-! ### laws_big: function 4 -/
def laws_big.f (l0 : List Int) (l1 : List Int) : Option (Bool) := if (l0.length : Int) > 1048576 then (some true) else (some (decide ((l1.length : Int) > (wrap64 (1048576 - (l0.length : Int))))))
set_option maxHeartbeats 8000000 in
set_option maxRecDepth 100000 in
theorem laws_big.calls (A0 : Option Addr) (c0 : Nat) (l0 : List Int) (A1 : Option Addr) (c1 : Nat) (l1 : List Int) (r : Bool) (w : World) (hr0 : Kd.C (Kd.int .u8) w A0 l0.length l0) (hc0 : l0.length ≤ c0) (hr1 : Kd.C (Kd.int .u8) w A1 l1.length l1) (hc1 : l1.length ≤ c1) (h : laws_big.f l0 l1 = some r) :
  Calls Try.prog 4 #[.slice A0 l0.length c0, .slice A1 l1.length c1] w fun e w' => e = .returned (.bool r) ∧ Drawn0 w w' := by
 have HR0 := Aside0.mk hr0
 have HC0 := Aside0.mk hc0
 clear hr0 hc0
 have HR1 := Aside0.mk hr1
 have HC1 := Aside0.mk hc1
 clear hr1 hc1
 have H : (if (l0.length : Int) > 1048576 then (some true) else (some (decide ((l1.length : Int) > (wrap64 (1048576 - (l0.length : Int))))))) = some r := h
 clear h
 by_cases c3 : (l0.length : Int) > 1048576
 ·
  rw [if_pos c3] at H
  have c3b0 : decide (1048576 < (l0.length : Int)) = true := decide_eq_true c3
  have c3b1 : decide (1048576 < l0.length) = true := decide_eq_true (by omega)
  clear c3
  obtain rfl := Option.some.inj H
  go_enter Try.func4, Try.ntmps4
  go_wp2
  go_ret
  exact ⟨Z91, Z64⟩
 ·
  rw [if_neg c3] at H
  have c3b0 : decide (1048576 < (l0.length : Int)) = false := decide_eq_false c3
  have c3b1 : decide (1048576 < l0.length) = false := decide_eq_false (by omega)
  clear c3
  obtain rfl := Option.some.inj H
  go_enter Try.func4, Try.ntmps4
  go_wp2
  go_ret
  exact ⟨Z91, Z64⟩

/-! ### spec_l1In: function 30 -/
def spec_l1In.f (a0 : Int) (a1 : Int) (a2 : Int) : Option (Bool) := if a0 ≥ a1 then (some (decide (a0 ≤ a2))) else (some false)
set_option maxHeartbeats 8000000 in
set_option maxRecDepth 100000 in
theorem spec_l1In.calls (a0 : Int) (a1 : Int) (a2 : Int) (r : Bool) (w : World) (h : spec_l1In.f a0 a1 a2 = some r) :
  Calls Try.prog 30 #[.int .i64 a0, .int .i64 a1, .int .i64 a2] w fun e w' => e = .returned (.bool r) ∧ Drawn0 w w' := by
 have H : (if a0 ≥ a1 then (some (decide (a0 ≤ a2))) else (some false)) = some r := h
 clear h
 by_cases c4 : a0 ≥ a1
 ·
  rw [if_pos c4] at H
  have c4b0 : decide (a1 ≤ a0) = true := decide_eq_true c4
  clear c4
  obtain rfl := Option.some.inj H
  go_enter Try.func30, Try.ntmps30
  go_wp2
  go_ret
  exact ⟨Z91, Z64⟩
 ·
  rw [if_neg c4] at H
  have c4b0 : decide (a1 ≤ a0) = false := decide_eq_false c4
  clear c4
  obtain rfl := Option.some.inj H
  go_enter Try.func30, Try.ntmps30
  go_wp2
  go_ret
  exact ⟨Z91, Z64⟩

/-! ### spec_l1All: function 40 -/
def spec_l1All.l0 : Nat → Int → Int → List Int → Int → Int → Option (Bool)
  | 0, _, _, _, _, _ => none
  | k + 1, x1, x2, x9, x10, x11 => if x11 < x10 then (if 0 ≤ x11 then (if x11 < (x9.length : Int) then ((spec_l1In.f (rd x9 x11) x1 x2).bind fun t102 => (if t102 = true then (spec_l1All.l0 k x1 x2 x9 x10 (wrap64 (x11 + 1))) else (some false))) else (none)) else (none)) else (some true)
def spec_l1All.f (k : Nat) (l0 : List Int) (a1 : Int) (a2 : Int) : Option (Bool) := spec_l1All.l0 k a1 a2 l0 (l0.length : Int) 0
theorem spec_l1All.mono_l : ∀ k, (∀ y0 y1 y2 y3 y4, LeO (spec_l1All.l0 k y0 y1 y2 y3 y4) (spec_l1All.l0 (k + 1) y0 y1 y2 y3 y4))
  | 0 => fun _ _ _ _ _ r h => by simp [spec_l1All.l0] at h
  | k + 1 => by
    have ih0 := spec_l1All.mono_l k
    · intro y0 y1 y2 y3 y4
      unfold spec_l1All.l0
      repeat' first
      | (with_reducible exact ih0 _ _ _ _ _)
      | (with_reducible exact LeO.refl _)
      | (with_reducible exact LeO.none _)
      | (with_reducible refine LeO.ite ?_ ?_)
      | (with_reducible refine LeO.bind ?_ (fun _ => ?_))
      | exact ih0 _ _ _ _ _
      | exact LeO.none _
      | refine LeO.ite ?_ ?_
      | refine LeO.bind ?_ (fun _ => ?_)
theorem spec_l1All.mono : ∀ a0 a1 a2 k, LeO (spec_l1All.f k a0 a1 a2) (spec_l1All.f (k + 1) a0 a1 a2) := by
  intro a0 a1 a2 k
  have ih0 := spec_l1All.mono_l k
  unfold spec_l1All.f
  repeat' first
      | (with_reducible exact ih0 _ _ _ _ _)
      | (with_reducible exact LeO.refl _)
      | (with_reducible exact LeO.none _)
      | (with_reducible refine LeO.ite ?_ ?_)
      | (with_reducible refine LeO.bind ?_ (fun _ => ?_))
      | exact ih0 _ _ _ _ _
      | exact LeO.none _
      | refine LeO.ite ?_ ?_
      | refine LeO.bind ?_ (fun _ => ?_)
set_option maxHeartbeats 8000000 in
set_option maxRecDepth 100000 in
theorem spec_l1All.calls (k : Nat) (A0 : Option Addr) (c0 : Nat) (l0 : List Int) (a1 : Int) (a2 : Int) (r : Bool) (w : World) (hr0 : Kd.C (Kd.int .i64) w A0 l0.length l0) (hc0 : l0.length ≤ c0) (h : spec_l1All.f k l0 a1 a2 = some r) :
  Calls Try.prog 40 #[.slice A0 l0.length c0, .int .i64 a1, .int .i64 a2] w fun e w' => e = .returned (.bool r) ∧ Drawn0 w w' := by
 have HR0 := Aside0.mk hr0
 have HC0 := Aside0.mk hc0
 clear hr0 hc0
 have H : (spec_l1All.l0 k a1 a2 l0 (l0.length : Int) 0) = some r := h
 clear h
 have H' := Aside0.mk H
 clear H
 go_enter Try.func40, Try.ntmps40
 go_wp2
 go_loopg [11] k (fun kq v11 w' => ∃ (x11_1 : Int), v11 = .int .i64 x11_1 ∧ Aside0 (spec_l1All.l0 kq a1 a2 l0 (l0.length : Int) x11_1 = some r) ∧ Aside0 (kq ≤ k) ∧ Drawn0 w w')
 case atStart => exact ⟨(0), Z91, H', ⟨Nat.le_refl _⟩, Z64⟩
 case round =>
  clear H'
  try clear p2
  obtain ⟨x11_1, rfl, HA, HK1, ⟨m1, rfl⟩⟩ := hrel
  cases gk with
  | zero => exact absurd HA.out (by simp [spec_l1All.l0])
  | succ k1 =>
   have H := HA.out
   clear HA
   simp only [spec_l1All.l0] at H
   by_cases c4 : x11_1 < (l0.length : Int)
   ·
    rw [if_pos c4] at H
    have c4b0 : decide (x11_1 < (l0.length : Int)) = true := decide_eq_true c4
    clear c4
    by_cases c5 : 0 ≤ x11_1
    ·
     rw [if_pos c5] at H
     have c5b0 : decide (0 ≤ x11_1) = true := decide_eq_true c5
     clear c5
     by_cases c6 : x11_1 < (l0.length : Int)
     ·
      rw [if_pos c6] at H
      have c6b0 : decide (x11_1 < (l0.length : Int)) = true := decide_eq_true c6
      clear c6
      replace H := Option.bind_eq_some_iff.mp H
      obtain ⟨t102, A70, H⟩ := H
      replace H : (if t102 = true then (spec_l1All.l0 k1 a1 a2 l0 (l0.length : Int) (wrap64 (x11_1 + 1))) else (some false)) = some r := H
      have A7 := Aside0.mk A70
      clear A70
      by_cases c8 : t102 = true
      ·
       subst c8
       have H1 : (spec_l1All.l0 k1 a1 a2 l0 (l0.length : Int) (wrap64 (x11_1 + 1))) = some r := by rw [if_pos rfl] at H; exact H
       clear H
       have H := H1
       clear H1
       have H' := Aside0.mk H
       clear H
       have p101 : 0 ≤ (x11_1 : Int) := of_decide_eq_true Z90
       have q101 : x11_1 < (l0.length : Int) := of_decide_eq_true Z90
       obtain ⟨ad101, e101, hx101_0⟩ := Kd.at_int HR0.out x11_1 p101 q101
       cases e101
       replace p101 := eq_true p101
       replace q101 := eq_true q101
       go_wp2_with (first | ((with_reducible refine gate_callee (f := 30) rfl ?_); refine goesN_ 30 (some 18) Try.func30 #[.int .i64 (rd l0 x11_1), .int .i64 a1, .int .i64 a2] ?_; (with_reducible refine (spec_l1In.calls (rd l0 x11_1) a1 a2 true _ A7.out).mono ?_); rintro e w' ⟨rfl, ⟨nd, rfl⟩⟩; refine ⟨_, rfl, ?_⟩))
       go_roundg k1
       case measure => have := HK1.out; omega
       case rel => exact ⟨(wrap64 (x11_1 + 1)), Z91, H', ⟨(by have := HK1.out; omega)⟩, Z64⟩
      ·
       replace c8 := Bool.eq_false_iff.mpr c8
       subst c8
       have H1 : (some false) = some r := by rw [if_neg (show ¬ (false = true) by decide)] at H; exact H
       clear H
       have H := H1
       clear H1
       obtain rfl := Option.some.inj H
       have p101 : 0 ≤ (x11_1 : Int) := of_decide_eq_true Z90
       have q101 : x11_1 < (l0.length : Int) := of_decide_eq_true Z90
       obtain ⟨ad101, e101, hx101_0⟩ := Kd.at_int HR0.out x11_1 p101 q101
       cases e101
       replace p101 := eq_true p101
       replace q101 := eq_true q101
       go_wp2_with (first | ((with_reducible refine gate_callee (f := 30) rfl ?_); refine goesN_ 30 (some 18) Try.func30 #[.int .i64 (rd l0 x11_1), .int .i64 a1, .int .i64 a2] ?_; (with_reducible refine (spec_l1In.calls (rd l0 x11_1) a1 a2 false _ A7.out).mono ?_); rintro e w' ⟨rfl, ⟨nd, rfl⟩⟩; refine ⟨_, rfl, ?_⟩))
       go_ret
       exact ⟨Z91, Z64⟩
     ·
      rw [if_neg c6] at H
      exact absurd H (by simp)
    ·
     rw [if_neg c5] at H
     exact absurd H (by simp)
   ·
    rw [if_neg c4] at H
    have c4b0 : decide (x11_1 < (l0.length : Int)) = false := decide_eq_false c4
    clear c4
    obtain rfl := Option.some.inj H
    go_wp2
    go_ret
    exact ⟨Z91, Z64⟩

/-! ### spec_ciGood: function 25 -/
def spec_ciGood.f (k : Nat) (a0_0 : Int) (a0_1 : Int) (a0_2 : Int) (a0_3 : Int) : Option (Bool) := (spec_l1All.f k (([a0_0, a0_1, a0_2, a0_3] : List Int)) (-1000000) 1000000).bind fun t107 => (if t107 = true then (some ((wrap64 ((wrap64 ((wrap64 (a0_2 * a0_2)) + (wrap64 (a0_3 * a0_3)))) - (wrap64 (a0_0 * a0_1)))) == 1)) else (some false))
theorem spec_ciGood.mono : ∀ a0 a1 a2 a3 k, LeO (spec_ciGood.f k a0 a1 a2 a3) (spec_ciGood.f (k + 1) a0 a1 a2 a3) := by
  intro a0 a1 a2 a3 k
  unfold spec_ciGood.f
  repeat' first
      | (with_reducible exact spec_l1All.mono _ _ _ _)
      | (with_reducible exact LeO.refl _)
      | (with_reducible exact LeO.none _)
      | (with_reducible refine LeO.ite ?_ ?_)
      | (with_reducible refine LeO.bind ?_ (fun _ => ?_))
      | exact spec_l1All.mono _ _ _ _
      | exact LeO.none _
      | refine LeO.ite ?_ ?_
      | refine LeO.bind ?_ (fun _ => ?_)
set_option maxHeartbeats 8000000 in
set_option maxRecDepth 100000 in
theorem spec_ciGood.calls (k : Nat) (a0_0 : Int) (a0_1 : Int) (a0_2 : Int) (a0_3 : Int) (r : Bool) (w : World) (h : spec_ciGood.f k a0_0 a0_1 a0_2 a0_3 = some r) :
  Calls Try.prog 25 #[.agg #[.int .i64 a0_0, .int .i64 a0_1, .int .i64 a0_2, .int .i64 a0_3]] w fun e w' => e = .returned (.bool r) ∧ Below w.heap.size w w' := by
 have hu25 := Try.underlying25
 have HB := Aside0.mk (Below.refl w.heap.size w)
 have H : ((spec_l1All.f k (([a0_0, a0_1, a0_2, a0_3] : List Int)) (-1000000) 1000000).bind fun t107 => (if t107 = true then (some ((wrap64 ((wrap64 ((wrap64 (a0_2 * a0_2)) + (wrap64 (a0_3 * a0_3)))) - (wrap64 (a0_0 * a0_1)))) == 1)) else (some false))) = some r := h
 clear h
 obtain ⟨y104, hy104⟩ : ∃ y_ : List Int, y_ = (([a0_0, a0_1, a0_2, a0_3] : List Int)) := ⟨_, rfl⟩
 replace H : ((spec_l1All.f k y104 (-1000000) 1000000).bind fun t107 => (if t107 = true then (some ((wrap64 ((wrap64 ((wrap64 (a0_2 * a0_2)) + (wrap64 (a0_3 * a0_3)))) - (wrap64 (a0_0 * a0_1)))) == 1)) else (some false))) = some r := by first | (rw [hy104]; with_reducible exact H) | (have H2_ := (Option.bind_some _ _).symm.trans H; rw [hy104]; with_reducible exact H2_) | (have H2_ := (Option.bind_some _ _).symm.trans H; with_reducible exact H2_) | with_reducible exact H | (rw [hy104]; exact H) | exact H
 have Ny104 := Aside0.mk hy104
 clear hy104
 replace H := Option.bind_eq_some_iff.mp H
 obtain ⟨t107, A20, H⟩ := H
 replace H : (if t107 = true then (some ((wrap64 ((wrap64 ((wrap64 (a0_2 * a0_2)) + (wrap64 (a0_3 * a0_3)))) - (wrap64 (a0_0 * a0_1)))) == 1)) else (some false)) = some r := H
 have A2 := Aside0.mk A20
 clear A20
 by_cases c3 : t107 = true
 ·
  subst c3
  have H1 : (some ((wrap64 ((wrap64 ((wrap64 (a0_2 * a0_2)) + (wrap64 (a0_3 * a0_3)))) - (wrap64 (a0_0 * a0_1)))) == 1)) = some r := by rw [if_pos rfl] at H; exact H
  clear H
  have H := H1
  clear H1
  obtain rfl := Option.some.inj H
  go_enter Try.func25, Try.ntmps25
  go_wp2_with (first | ((with_reducible refine gate_dst (N := 1) rfl ?_); refine boxN_ 1 #[.int .i64 a0_0, .int .i64 a0_1, .int .i64 a0_2, .int .i64 a0_3] 25 ?_; intro gb103 hg w4 hbox hb; have BK103 := Aside0.mk hbox; have GW103 := gw_ (w := w) Z111 hg; have GE103 := gw_ (w := w) Z111 hg; replace HB := Aside0.mk (below_step Z111 hb); clear hb hbox hg; obtain ⟨_, _, _, _, _, _, _, _⟩ := cz4_ BK103) | ((with_reducible refine gate_dst (N := 11) rfl ?_); refine Kd.R_lit (Kd.int .i64) _ 3 ?hg (N := 11) ?hd (xs := ([a0_0, a0_1, a0_2, a0_3] : List Int)) (inner := [.int .i64 a0_0, .int .i64 a0_1, .int .i64 a0_2, .int .i64 a0_3]) (ok := fun _ => True) (okp := fun _ => True) ?hr ?hp (fun _ hk => hk) trivial (Below.refl _ _) (Nat.le_refl _) (by simp) ?_; (case hd => rfl); (case hg => rfl); (case hr => first | (go_simp; done) | (go_simp; rfl)); (case hp => exact (Reps.one (show Kd.M (Kd.int .i64) _ _ _ a0_0 [.int .i64 a0_0] from rfl) (Reps.one (show Kd.M (Kd.int .i64) _ _ _ a0_1 [.int .i64 a0_1] from rfl) (Reps.one (show Kd.M (Kd.int .i64) _ _ _ a0_2 [.int .i64 a0_2] from rfl) (Reps.one (show Kd.M (Kd.int .i64) _ _ _ a0_3 [.int .i64 a0_3] from rfl) (Reps.none _ _)))))); intro v105 w6 ho7 hb hg_ hnew_; clear hg_ hnew_; (first | rw [← Ny104.out] at ho7 | (simp only [Int.reduceToNat] at ho7; rw [← Ny104.out] at ho7)); have HO106 := Aside0.mk (Kd.R_lower ho7 (below_size Z39)); replace BK103 := bk_ BK103 hb; replace HB := Aside0.mk (below_step Z39 hb); clear hb ho7; obtain ⟨Ao8, co8, eo8⟩ := Kd.R_slice HO106.out; subst eo8) | ((with_reducible refine gate_callee (f := 40) rfl ?_); refine goesN_ 40 (some 12) Try.func40 #[.slice Ao8 y104.length co8, .int .i64 (-1000000), .int .i64 1000000] ?_; (with_reducible refine (spec_l1All.calls k _ _ y104 (-1000000) 1000000 true _ ?side1 ?side2 A2.out).mono ?_); (case side1 => repeat (first | exact (Kd.R_reads' HO106.out).2.2 | (with_reducible refine Kd.C_alloc ?_ _) | (with_reducible refine Kd.C_drewN ?_ _) | (with_reducible refine Kd.C_drew ?_))); (case side2 => exact (Kd.R_reads' HO106.out).2.1); rintro e w' ⟨rfl, ⟨nd, rfl⟩⟩; refine ⟨_, rfl, ?_⟩; obtain ⟨_, _, _, _, _, _, _, _⟩ := cz4_ BK103))
  go_ret
  exact ⟨Z106, Z39⟩
 ·
  replace c3 := Bool.eq_false_iff.mpr c3
  subst c3
  have H1 : (some false) = some r := by rw [if_neg (show ¬ (false = true) by decide)] at H; exact H
  clear H
  have H := H1
  clear H1
  obtain rfl := Option.some.inj H
  go_enter Try.func25, Try.ntmps25
  go_wp2_with (first | ((with_reducible refine gate_dst (N := 1) rfl ?_); refine boxN_ 1 #[.int .i64 a0_0, .int .i64 a0_1, .int .i64 a0_2, .int .i64 a0_3] 25 ?_; intro gb103 hg w10 hbox hb; have BK103 := Aside0.mk hbox; have GW103 := gw_ (w := w) Z111 hg; have GE103 := gw_ (w := w) Z111 hg; replace HB := Aside0.mk (below_step Z111 hb); clear hb hbox hg; obtain ⟨_, _, _, _, _, _, _, _⟩ := cz4_ BK103) | ((with_reducible refine gate_dst (N := 11) rfl ?_); refine Kd.R_lit (Kd.int .i64) _ 3 ?hg (N := 11) ?hd (xs := ([a0_0, a0_1, a0_2, a0_3] : List Int)) (inner := [.int .i64 a0_0, .int .i64 a0_1, .int .i64 a0_2, .int .i64 a0_3]) (ok := fun _ => True) (okp := fun _ => True) ?hr ?hp (fun _ hk => hk) trivial (Below.refl _ _) (Nat.le_refl _) (by simp) ?_; (case hd => rfl); (case hg => rfl); (case hr => first | (go_simp; done) | (go_simp; rfl)); (case hp => exact (Reps.one (show Kd.M (Kd.int .i64) _ _ _ a0_0 [.int .i64 a0_0] from rfl) (Reps.one (show Kd.M (Kd.int .i64) _ _ _ a0_1 [.int .i64 a0_1] from rfl) (Reps.one (show Kd.M (Kd.int .i64) _ _ _ a0_2 [.int .i64 a0_2] from rfl) (Reps.one (show Kd.M (Kd.int .i64) _ _ _ a0_3 [.int .i64 a0_3] from rfl) (Reps.none _ _)))))); intro v105 w12 ho13 hb hg_ hnew_; clear hg_ hnew_; (first | rw [← Ny104.out] at ho13 | (simp only [Int.reduceToNat] at ho13; rw [← Ny104.out] at ho13)); have HO106 := Aside0.mk (Kd.R_lower ho13 (below_size Z39)); replace BK103 := bk_ BK103 hb; replace HB := Aside0.mk (below_step Z39 hb); clear hb ho13; obtain ⟨Ao14, co14, eo14⟩ := Kd.R_slice HO106.out; subst eo14) | ((with_reducible refine gate_callee (f := 40) rfl ?_); refine goesN_ 40 (some 12) Try.func40 #[.slice Ao14 y104.length co14, .int .i64 (-1000000), .int .i64 1000000] ?_; (with_reducible refine (spec_l1All.calls k _ _ y104 (-1000000) 1000000 false _ ?side1 ?side2 A2.out).mono ?_); (case side1 => repeat (first | exact (Kd.R_reads' HO106.out).2.2 | (with_reducible refine Kd.C_alloc ?_ _) | (with_reducible refine Kd.C_drewN ?_ _) | (with_reducible refine Kd.C_drew ?_))); (case side2 => exact (Kd.R_reads' HO106.out).2.1); rintro e w' ⟨rfl, ⟨nd, rfl⟩⟩; refine ⟨_, rfl, ?_⟩))
  go_ret
  exact ⟨Z106, Z39⟩

/-! ### spec_ciIf: function 31 -/
def spec_ciIf.f (k : Nat) (a0_0 : Int) (a0_1 : Int) (a0_2 : Int) (a0_3 : Int) : Option (Int × Int × Int × Int × Bool) := (spec_ciGood.f k a0_0 a0_1 a0_2 a0_3).bind fun t110 => (if t110 = true then (some (a0_0, a0_1, a0_2, a0_3, true)) else (some (0, 0, 0, 0, false)))
theorem spec_ciIf.mono : ∀ a0 a1 a2 a3 k, LeO (spec_ciIf.f k a0 a1 a2 a3) (spec_ciIf.f (k + 1) a0 a1 a2 a3) := by
  intro a0 a1 a2 a3 k
  unfold spec_ciIf.f
  repeat' first
      | (with_reducible exact spec_ciGood.mono _ _ _ _ _)
      | (with_reducible exact LeO.refl _)
      | (with_reducible exact LeO.none _)
      | (with_reducible refine LeO.ite ?_ ?_)
      | (with_reducible refine LeO.bind ?_ (fun _ => ?_))
      | exact spec_ciGood.mono _ _ _ _ _
      | exact LeO.none _
      | refine LeO.ite ?_ ?_
      | refine LeO.bind ?_ (fun _ => ?_)
set_option maxHeartbeats 8000000 in
set_option maxRecDepth 100000 in
theorem spec_ciIf.calls (k : Nat) (a0_0 : Int) (a0_1 : Int) (a0_2 : Int) (a0_3 : Int) (r1 : Int) (r2 : Int) (r3 : Int) (r4 : Int) (r5 : Bool) (w : World) (h : spec_ciIf.f k a0_0 a0_1 a0_2 a0_3 = some (r1, r2, r3, r4, r5)) :
  Calls Try.prog 31 #[.agg #[.int .i64 a0_0, .int .i64 a0_1, .int .i64 a0_2, .int .i64 a0_3]] w fun e w' => e = .returned (.tuple #[.agg #[.int .i64 r1, .int .i64 r2, .int .i64 r3, .int .i64 r4], .bool r5]) ∧ Below w.heap.size w w' := by
 have hu25 := Try.underlying25
 have HB := Aside0.mk (Below.refl w.heap.size w)
 have H : ((spec_ciGood.f k a0_0 a0_1 a0_2 a0_3).bind fun t110 => (if t110 = true then (some (a0_0, a0_1, a0_2, a0_3, true)) else (some (0, 0, 0, 0, false)))) = some (r1, r2, r3, r4, r5) := h
 clear h
 replace H := Option.bind_eq_some_iff.mp H
 obtain ⟨t110, A20, H⟩ := H
 replace H : (if t110 = true then (some (a0_0, a0_1, a0_2, a0_3, true)) else (some (0, 0, 0, 0, false))) = some (r1, r2, r3, r4, r5) := H
 have A2 := Aside0.mk A20
 clear A20
 by_cases c3 : t110 = true
 ·
  subst c3
  have H1 : (some (a0_0, a0_1, a0_2, a0_3, true)) = some (r1, r2, r3, r4, r5) := by rw [if_pos rfl] at H; exact H
  clear H
  have H := H1
  clear H1
  simp only [Option.some.injEq, Prod.mk.injEq] at H
  obtain ⟨rfl, rfl, rfl, rfl, rfl⟩ := H
  go_enter Try.func31, Try.ntmps31
  go_wp2_with (first | ((with_reducible refine gate_dst (N := 1) rfl ?_); refine boxN_ 1 #[.int .i64 a0_0, .int .i64 a0_1, .int .i64 a0_2, .int .i64 a0_3] 25 ?_; intro gb108 hg w4 hbox hb; have BK108 := Aside0.mk hbox; have GW108 := gw_ (w := w) Z111 hg; have GE108 := gw_ (w := w) Z111 hg; replace HB := Aside0.mk (below_step Z111 hb); clear hb hbox hg) | ((with_reducible refine gate_dst (N := 2) rfl ?_); refine boxN_ 2 #[.int .i64 0, .int .i64 0, .int .i64 0, .int .i64 0] 25 ?_; intro gb109 hg w5 hbox hb; have BK109 := Aside0.mk hbox; have GW109 := gw_ (w := w) Z40 hg; have GE109 := gw_ (w := w) Z40 hg; replace HB := Aside0.mk (below_step Z40 hb); have NB108_109 := nl_ BK108 hg; have NB109_108 := ng_ BK108 hg; replace BK108 := bk_ BK108 hb; clear hb hbox hg; have hnb6 := NB108_109.out; have hnc6 := NB109_108.out; obtain ⟨_, _, _, _, _, _, _, _⟩ := cz4_ BK108) | ((with_reducible refine gate_callee (f := 25) rfl ?_); refine goesN_ 25 (some 5) Try.func25 #[.agg #[.int .i64 a0_0, .int .i64 a0_1, .int .i64 a0_2, .int .i64 a0_3]] ?_; (with_reducible refine (spec_ciGood.calls k a0_0 a0_1 a0_2 a0_3 true _ A2.out).mono ?_); rintro e w8 ⟨rfl, hb⟩; refine ⟨_, rfl, ?_⟩; replace BK108 := bk_ BK108 hb; replace BK109 := bk_ BK109 hb; replace HB := Aside0.mk (below_step Z24 hb); clear hb; obtain ⟨_, _, _, _, _, _, _, _⟩ := cz4_ BK108; obtain ⟨_, _, _, _, _, _, _, _⟩ := cz4_ BK109))
  refine bodyPost_ret (results_ct rfl _ _ gb109 25 #[.int .i64 a0_0, .int .i64 a0_1, .int .i64 a0_2, .int .i64 a0_3] (0, 0) _ rfl (by (with_reducible repeat (first | refine blk_drewN ?_ _ | refine blk_drew ?_ | refine blk_alloc ?_ _)); refine blk_put (cs := #[.int .i64 a0_0, .int .i64 a0_1, .int .i64 a0_2, .int .i64 0]) ?_ 3 _ rfl; (with_reducible repeat (first | refine blk_drewN ?_ _ | refine blk_drew ?_ | refine blk_alloc ?_ _)); refine blk_put (cs := #[.int .i64 a0_0, .int .i64 a0_1, .int .i64 0, .int .i64 0]) ?_ 2 _ rfl; (with_reducible repeat (first | refine blk_drewN ?_ _ | refine blk_drew ?_ | refine blk_alloc ?_ _)); refine blk_put (cs := #[.int .i64 a0_0, .int .i64 0, .int .i64 0, .int .i64 0]) ?_ 1 _ rfl; (with_reducible repeat (first | refine blk_drewN ?_ _ | refine blk_drew ?_ | refine blk_alloc ?_ _)); refine blk_put (cs := #[.int .i64 0, .int .i64 0, .int .i64 0, .int .i64 0]) ?_ 0 _ rfl; (with_reducible repeat (first | refine blk_drewN ?_ _ | refine blk_drew ?_ | refine blk_alloc ?_ _)); exact BK109.out) Try.underlying25 rfl Z59) rfl ?_
  exact ⟨Z106, Z24⟩
 ·
  replace c3 := Bool.eq_false_iff.mpr c3
  subst c3
  have H1 : (some (0, 0, 0, 0, false)) = some (r1, r2, r3, r4, r5) := by rw [if_neg (show ¬ (false = true) by decide)] at H; exact H
  clear H
  have H := H1
  clear H1
  simp only [Option.some.injEq, Prod.mk.injEq] at H
  obtain ⟨rfl, rfl, rfl, rfl, rfl⟩ := H
  go_enter Try.func31, Try.ntmps31
  go_wp2_with (first | ((with_reducible refine gate_dst (N := 1) rfl ?_); refine boxN_ 1 #[.int .i64 a0_0, .int .i64 a0_1, .int .i64 a0_2, .int .i64 a0_3] 25 ?_; intro gb108 hg w11 hbox hb; have BK108 := Aside0.mk hbox; have GW108 := gw_ (w := w) Z111 hg; have GE108 := gw_ (w := w) Z111 hg; replace HB := Aside0.mk (below_step Z111 hb); clear hb hbox hg) | ((with_reducible refine gate_dst (N := 2) rfl ?_); refine boxN_ 2 #[.int .i64 0, .int .i64 0, .int .i64 0, .int .i64 0] 25 ?_; intro gb109 hg w12 hbox hb; have BK109 := Aside0.mk hbox; have GW109 := gw_ (w := w) Z40 hg; have GE109 := gw_ (w := w) Z40 hg; replace HB := Aside0.mk (below_step Z40 hb); have NB108_109 := nl_ BK108 hg; have NB109_108 := ng_ BK108 hg; replace BK108 := bk_ BK108 hb; clear hb hbox hg; have hnb13 := NB108_109.out; have hnc13 := NB109_108.out; obtain ⟨_, _, _, _, _, _, _, _⟩ := cz4_ BK108) | ((with_reducible refine gate_callee (f := 25) rfl ?_); refine goesN_ 25 (some 5) Try.func25 #[.agg #[.int .i64 a0_0, .int .i64 a0_1, .int .i64 a0_2, .int .i64 a0_3]] ?_; (with_reducible refine (spec_ciGood.calls k a0_0 a0_1 a0_2 a0_3 false _ A2.out).mono ?_); rintro e w15 ⟨rfl, hb⟩; refine ⟨_, rfl, ?_⟩; replace BK108 := bk_ BK108 hb; replace BK109 := bk_ BK109 hb; replace HB := Aside0.mk (below_step Z24 hb); clear hb; obtain ⟨_, _, _, _, _, _, _, _⟩ := cz4_ BK109))
  refine bodyPost_ret (results_ct rfl _ _ gb109 25 #[.int .i64 0, .int .i64 0, .int .i64 0, .int .i64 0] (0, 0) _ rfl (by (with_reducible repeat (first | refine blk_drewN ?_ _ | refine blk_drew ?_ | refine blk_alloc ?_ _)); refine blk_put (cs := #[.int .i64 0, .int .i64 0, .int .i64 0, .int .i64 0]) ?_ 3 _ rfl; (with_reducible repeat (first | refine blk_drewN ?_ _ | refine blk_drew ?_ | refine blk_alloc ?_ _)); refine blk_put (cs := #[.int .i64 0, .int .i64 0, .int .i64 0, .int .i64 0]) ?_ 2 _ rfl; (with_reducible repeat (first | refine blk_drewN ?_ _ | refine blk_drew ?_ | refine blk_alloc ?_ _)); refine blk_put (cs := #[.int .i64 0, .int .i64 0, .int .i64 0, .int .i64 0]) ?_ 1 _ rfl; (with_reducible repeat (first | refine blk_drewN ?_ _ | refine blk_drew ?_ | refine blk_alloc ?_ _)); refine blk_put (cs := #[.int .i64 0, .int .i64 0, .int .i64 0, .int .i64 0]) ?_ 0 _ rfl; (with_reducible repeat (first | refine blk_drewN ?_ _ | refine blk_drew ?_ | refine blk_alloc ?_ _)); exact BK109.out) Try.underlying25 rfl Z59) rfl ?_
  exact ⟨Z106, Z24⟩

/-! ### spec_ShiftCircle: function 14 -/
def spec_ShiftCircle.f (k : Nat) (a0_0 : Int) (a0_1 : Int) (a0_2 : Int) (a0_3 : Int) (a1 : Int) (a2 : Int) : Option (Int × Int × Int × Int × Bool) := (spec_ciGood.f k a0_0 a0_1 a0_2 a0_3).bind fun t113 => (if t113 = true then ((spec_l1In.f a1 (-1000) 1000).bind fun t114 => (if t114 = true then ((spec_l1In.f a2 (-1000) 1000).bind fun t115 => (if t115 = true then ((spec_ciIf.f k (wrap64 ((wrap64 (a0_0 + (wrap64 (2 * (wrap64 ((wrap64 (a0_2 * a1)) + (wrap64 (a0_3 * a2)))))))) + (wrap64 (a0_1 * (wrap64 ((wrap64 (a1 * a1)) + (wrap64 (a2 * a2)))))))) a0_1 (wrap64 (a0_2 + (wrap64 (a0_1 * a1)))) (wrap64 (a0_3 + (wrap64 (a0_1 * a2))))).bind fun bt116 => (some (bt116.1, bt116.2.1, bt116.2.2.1, bt116.2.2.2.1, bt116.2.2.2.2))) else (some (0, 0, 0, 0, false)))) else (some (0, 0, 0, 0, false)))) else (some (0, 0, 0, 0, false)))
theorem spec_ShiftCircle.mono : ∀ a0 a1 a2 a3 a4 a5 k, LeO (spec_ShiftCircle.f k a0 a1 a2 a3 a4 a5) (spec_ShiftCircle.f (k + 1) a0 a1 a2 a3 a4 a5) := by
  intro a0 a1 a2 a3 a4 a5 k
  unfold spec_ShiftCircle.f
  repeat' first
      | (with_reducible exact spec_ciGood.mono _ _ _ _ _)
      | (with_reducible exact spec_ciIf.mono _ _ _ _ _)
      | (with_reducible exact LeO.refl _)
      | (with_reducible exact LeO.none _)
      | (with_reducible refine LeO.ite ?_ ?_)
      | (with_reducible refine LeO.bind ?_ (fun _ => ?_))
      | exact spec_ciGood.mono _ _ _ _ _
      | exact spec_ciIf.mono _ _ _ _ _
      | exact LeO.none _
      | refine LeO.ite ?_ ?_
      | refine LeO.bind ?_ (fun _ => ?_)
set_option maxHeartbeats 8000000 in
set_option maxRecDepth 100000 in
theorem spec_ShiftCircle.calls (k : Nat) (a0_0 : Int) (a0_1 : Int) (a0_2 : Int) (a0_3 : Int) (a1 : Int) (a2 : Int) (r1 : Int) (r2 : Int) (r3 : Int) (r4 : Int) (r5 : Bool) (w : World) (h : spec_ShiftCircle.f k a0_0 a0_1 a0_2 a0_3 a1 a2 = some (r1, r2, r3, r4, r5)) :
  Calls Try.prog 14 #[.agg #[.int .i64 a0_0, .int .i64 a0_1, .int .i64 a0_2, .int .i64 a0_3], .int .i64 a1, .int .i64 a2] w fun e w' => e = .returned (.tuple #[.agg #[.int .i64 r1, .int .i64 r2, .int .i64 r3, .int .i64 r4], .bool r5]) ∧ Below w.heap.size w w' := by
 have hu25 := Try.underlying25
 have HB := Aside0.mk (Below.refl w.heap.size w)
 have H : ((spec_ciGood.f k a0_0 a0_1 a0_2 a0_3).bind fun t113 => (if t113 = true then ((spec_l1In.f a1 (-1000) 1000).bind fun t114 => (if t114 = true then ((spec_l1In.f a2 (-1000) 1000).bind fun t115 => (if t115 = true then ((spec_ciIf.f k (wrap64 ((wrap64 (a0_0 + (wrap64 (2 * (wrap64 ((wrap64 (a0_2 * a1)) + (wrap64 (a0_3 * a2)))))))) + (wrap64 (a0_1 * (wrap64 ((wrap64 (a1 * a1)) + (wrap64 (a2 * a2)))))))) a0_1 (wrap64 (a0_2 + (wrap64 (a0_1 * a1)))) (wrap64 (a0_3 + (wrap64 (a0_1 * a2))))).bind fun bt116 => (some (bt116.1, bt116.2.1, bt116.2.2.1, bt116.2.2.2.1, bt116.2.2.2.2))) else (some (0, 0, 0, 0, false)))) else (some (0, 0, 0, 0, false)))) else (some (0, 0, 0, 0, false)))) = some (r1, r2, r3, r4, r5) := h
 clear h
 replace H := Option.bind_eq_some_iff.mp H
 obtain ⟨t113, A40, H⟩ := H
 replace H : (if t113 = true then ((spec_l1In.f a1 (-1000) 1000).bind fun t114 => (if t114 = true then ((spec_l1In.f a2 (-1000) 1000).bind fun t115 => (if t115 = true then ((spec_ciIf.f k (wrap64 ((wrap64 (a0_0 + (wrap64 (2 * (wrap64 ((wrap64 (a0_2 * a1)) + (wrap64 (a0_3 * a2)))))))) + (wrap64 (a0_1 * (wrap64 ((wrap64 (a1 * a1)) + (wrap64 (a2 * a2)))))))) a0_1 (wrap64 (a0_2 + (wrap64 (a0_1 * a1)))) (wrap64 (a0_3 + (wrap64 (a0_1 * a2))))).bind fun bt116 => (some (bt116.1, bt116.2.1, bt116.2.2.1, bt116.2.2.2.1, bt116.2.2.2.2))) else (some (0, 0, 0, 0, false)))) else (some (0, 0, 0, 0, false)))) else (some (0, 0, 0, 0, false))) = some (r1, r2, r3, r4, r5) := H
 have A4 := Aside0.mk A40
 clear A40
 by_cases c5 : t113 = true
 ·
  subst c5
  have H1 : ((spec_l1In.f a1 (-1000) 1000).bind fun t114 => (if t114 = true then ((spec_l1In.f a2 (-1000) 1000).bind fun t115 => (if t115 = true then ((spec_ciIf.f k (wrap64 ((wrap64 (a0_0 + (wrap64 (2 * (wrap64 ((wrap64 (a0_2 * a1)) + (wrap64 (a0_3 * a2)))))))) + (wrap64 (a0_1 * (wrap64 ((wrap64 (a1 * a1)) + (wrap64 (a2 * a2)))))))) a0_1 (wrap64 (a0_2 + (wrap64 (a0_1 * a1)))) (wrap64 (a0_3 + (wrap64 (a0_1 * a2))))).bind fun bt116 => (some (bt116.1, bt116.2.1, bt116.2.2.1, bt116.2.2.2.1, bt116.2.2.2.2))) else (some (0, 0, 0, 0, false)))) else (some (0, 0, 0, 0, false)))) = some (r1, r2, r3, r4, r5) := by rw [if_pos rfl] at H; exact H
  clear H
  have H := H1
  clear H1
  replace H := Option.bind_eq_some_iff.mp H
  obtain ⟨t114, A60, H⟩ := H
  replace H : (if t114 = true then ((spec_l1In.f a2 (-1000) 1000).bind fun t115 => (if t115 = true then ((spec_ciIf.f k (wrap64 ((wrap64 (a0_0 + (wrap64 (2 * (wrap64 ((wrap64 (a0_2 * a1)) + (wrap64 (a0_3 * a2)))))))) + (wrap64 (a0_1 * (wrap64 ((wrap64 (a1 * a1)) + (wrap64 (a2 * a2)))))))) a0_1 (wrap64 (a0_2 + (wrap64 (a0_1 * a1)))) (wrap64 (a0_3 + (wrap64 (a0_1 * a2))))).bind fun bt116 => (some (bt116.1, bt116.2.1, bt116.2.2.1, bt116.2.2.2.1, bt116.2.2.2.2))) else (some (0, 0, 0, 0, false)))) else (some (0, 0, 0, 0, false))) = some (r1, r2, r3, r4, r5) := H
  have A6 := Aside0.mk A60
  clear A60
  by_cases c7 : t114 = true
  ·
   subst c7
   have H1 : ((spec_l1In.f a2 (-1000) 1000).bind fun t115 => (if t115 = true then ((spec_ciIf.f k (wrap64 ((wrap64 (a0_0 + (wrap64 (2 * (wrap64 ((wrap64 (a0_2 * a1)) + (wrap64 (a0_3 * a2)))))))) + (wrap64 (a0_1 * (wrap64 ((wrap64 (a1 * a1)) + (wrap64 (a2 * a2)))))))) a0_1 (wrap64 (a0_2 + (wrap64 (a0_1 * a1)))) (wrap64 (a0_3 + (wrap64 (a0_1 * a2))))).bind fun bt116 => (some (bt116.1, bt116.2.1, bt116.2.2.1, bt116.2.2.2.1, bt116.2.2.2.2))) else (some (0, 0, 0, 0, false)))) = some (r1, r2, r3, r4, r5) := by rw [if_pos rfl] at H; exact H
   clear H
   have H := H1
   clear H1
   replace H := Option.bind_eq_some_iff.mp H
   obtain ⟨t115, A80, H⟩ := H
   replace H : (if t115 = true then ((spec_ciIf.f k (wrap64 ((wrap64 (a0_0 + (wrap64 (2 * (wrap64 ((wrap64 (a0_2 * a1)) + (wrap64 (a0_3 * a2)))))))) + (wrap64 (a0_1 * (wrap64 ((wrap64 (a1 * a1)) + (wrap64 (a2 * a2)))))))) a0_1 (wrap64 (a0_2 + (wrap64 (a0_1 * a1)))) (wrap64 (a0_3 + (wrap64 (a0_1 * a2))))).bind fun bt116 => (some (bt116.1, bt116.2.1, bt116.2.2.1, bt116.2.2.2.1, bt116.2.2.2.2))) else (some (0, 0, 0, 0, false))) = some (r1, r2, r3, r4, r5) := H
   have A8 := Aside0.mk A80
   clear A80
   by_cases c9 : t115 = true
   ·
    subst c9
    have H1 : ((spec_ciIf.f k (wrap64 ((wrap64 (a0_0 + (wrap64 (2 * (wrap64 ((wrap64 (a0_2 * a1)) + (wrap64 (a0_3 * a2)))))))) + (wrap64 (a0_1 * (wrap64 ((wrap64 (a1 * a1)) + (wrap64 (a2 * a2)))))))) a0_1 (wrap64 (a0_2 + (wrap64 (a0_1 * a1)))) (wrap64 (a0_3 + (wrap64 (a0_1 * a2))))).bind fun bt116 => (some (bt116.1, bt116.2.1, bt116.2.2.1, bt116.2.2.2.1, bt116.2.2.2.2))) = some (r1, r2, r3, r4, r5) := by rw [if_pos rfl] at H; exact H
    clear H
    have H := H1
    clear H1
    replace H := Option.bind_eq_some_iff.mp H
    obtain ⟨⟨t116, t117, t118, t119, t120⟩, A100, H⟩ := H
    replace H : (some (t116, t117, t118, t119, t120)) = some (r1, r2, r3, r4, r5) := H
    have A10 := Aside0.mk A100
    clear A100
    simp only [Option.some.injEq, Prod.mk.injEq] at H
    obtain ⟨rfl, rfl, rfl, rfl, rfl⟩ := H
    go_enter Try.func14, Try.ntmps14
    go_wp2_with (first | ((with_reducible refine gate_dst (N := 3) rfl ?_); refine boxN_ 3 #[.int .i64 a0_0, .int .i64 a0_1, .int .i64 a0_2, .int .i64 a0_3] 25 ?_; intro gb111 hg w11 hbox hb; have BK111 := Aside0.mk hbox; have GW111 := gw_ (w := w) Z111 hg; have GE111 := gw_ (w := w) Z111 hg; replace HB := Aside0.mk (below_step Z111 hb); clear hb hbox hg) | ((with_reducible refine gate_dst (N := 6) rfl ?_); refine boxN_ 6 #[.int .i64 0, .int .i64 0, .int .i64 0, .int .i64 0] 25 ?_; intro gb112 hg w12 hbox hb; have BK112 := Aside0.mk hbox; have GW112 := gw_ (w := w) Z86 hg; have GE112 := gw_ (w := w) Z86 hg; replace HB := Aside0.mk (below_step Z86 hb); have NB111_112 := nl_ BK111 hg; have NB112_111 := ng_ BK111 hg; replace BK111 := bk_ BK111 hb; clear hb hbox hg; have hnb13 := NB111_112.out; have hnc13 := NB112_111.out; obtain ⟨_, _, _, _, _, _, _, _⟩ := cz4_ BK111) | ((with_reducible refine gate_callee (f := 25) rfl ?_); refine goesN_ 25 (some 9) Try.func25 #[.agg #[.int .i64 a0_0, .int .i64 a0_1, .int .i64 a0_2, .int .i64 a0_3]] ?_; (with_reducible refine (spec_ciGood.calls k a0_0 a0_1 a0_2 a0_3 true _ A4.out).mono ?_); rintro e w15 ⟨rfl, hb⟩; refine ⟨_, rfl, ?_⟩; replace BK111 := bk_ BK111 hb; replace BK112 := bk_ BK112 hb; replace HB := Aside0.mk (below_step Z96 hb); clear hb) | (go_at_call 30; (with_reducible refine (spec_l1In.calls a1 (-1000) 1000 true _ A6.out).mono ?_); rintro e w' ⟨rfl, ⟨nd, rfl⟩⟩; (try (rw [drewN_self w15]; generalize hq_ : World.drewN w15 _ = w15; replace BK111 := bq_ BK111 hq_; replace BK112 := bq_ BK112 hq_; replace HB : Aside0 (Below w.heap.size w w15) := ⟨(by rw [← hq_]; exact Z96)⟩; clear hq_))) | (go_at_call 30; (with_reducible refine (spec_l1In.calls a2 (-1000) 1000 true _ A8.out).mono ?_); rintro e w' ⟨rfl, ⟨nd, rfl⟩⟩; (try (rw [drewN_self w15]; generalize hq_ : World.drewN w15 _ = w15; replace BK111 := bq_ BK111 hq_; replace BK112 := bq_ BK112 hq_; replace HB : Aside0 (Below w.heap.size w w15) := ⟨(by rw [← hq_]; exact Z96)⟩; clear hq_)); obtain ⟨_, _, _, _, _, _, _, _⟩ := cz4_ BK111) | ((with_reducible refine gate_callee (f := 31) rfl ?_); refine goesN_ 31 (some 63) Try.func31 #[.agg #[.int .i64 (wrap64 ((wrap64 (a0_0 + (wrap64 (2 * (wrap64 ((wrap64 (a0_2 * a1)) + (wrap64 (a0_3 * a2)))))))) + (wrap64 (a0_1 * (wrap64 ((wrap64 (a1 * a1)) + (wrap64 (a2 * a2)))))))), .int .i64 a0_1, .int .i64 (wrap64 (a0_2 + (wrap64 (a0_1 * a1)))), .int .i64 (wrap64 (a0_3 + (wrap64 (a0_1 * a2))))]] ?_; (with_reducible refine (spec_ciIf.calls k (wrap64 ((wrap64 (a0_0 + (wrap64 (2 * (wrap64 ((wrap64 (a0_2 * a1)) + (wrap64 (a0_3 * a2)))))))) + (wrap64 (a0_1 * (wrap64 ((wrap64 (a1 * a1)) + (wrap64 (a2 * a2)))))))) a0_1 (wrap64 (a0_2 + (wrap64 (a0_1 * a1)))) (wrap64 (a0_3 + (wrap64 (a0_1 * a2)))) t116 t117 t118 t119 t120 _ A10.out).mono ?_); rintro e w17 ⟨rfl, hb⟩; refine ⟨_, rfl, ?_⟩; replace BK111 := bk_ BK111 hb; replace BK112 := bk_ BK112 hb; replace HB := Aside0.mk (below_step Z96 hb); clear hb; obtain ⟨_, _, _, _, _, _, _, _⟩ := cz4_ BK112))
    refine bodyPost_ret (results_ct rfl _ _ gb112 25 #[.int .i64 t116, .int .i64 t117, .int .i64 t118, .int .i64 t119] (0, 0) _ rfl (by (with_reducible repeat (first | refine blk_drewN ?_ _ | refine blk_drew ?_ | refine blk_alloc ?_ _)); refine blk_put (cs := #[.int .i64 t116, .int .i64 t117, .int .i64 t118, .int .i64 0]) ?_ 3 _ rfl; (with_reducible repeat (first | refine blk_drewN ?_ _ | refine blk_drew ?_ | refine blk_alloc ?_ _)); refine blk_put (cs := #[.int .i64 t116, .int .i64 t117, .int .i64 0, .int .i64 0]) ?_ 2 _ rfl; (with_reducible repeat (first | refine blk_drewN ?_ _ | refine blk_drew ?_ | refine blk_alloc ?_ _)); refine blk_put (cs := #[.int .i64 t116, .int .i64 0, .int .i64 0, .int .i64 0]) ?_ 1 _ rfl; (with_reducible repeat (first | refine blk_drewN ?_ _ | refine blk_drew ?_ | refine blk_alloc ?_ _)); refine blk_put (cs := #[.int .i64 0, .int .i64 0, .int .i64 0, .int .i64 0]) ?_ 0 _ rfl; (with_reducible repeat (first | refine blk_drewN ?_ _ | refine blk_drew ?_ | refine blk_alloc ?_ _)); exact BK112.out) Try.underlying25 rfl Z59) rfl ?_
    exact ⟨Z106, Z96⟩
   ·
    replace c9 := Bool.eq_false_iff.mpr c9
    subst c9
    have H1 : (some (0, 0, 0, 0, false)) = some (r1, r2, r3, r4, r5) := by rw [if_neg (show ¬ (false = true) by decide)] at H; exact H
    clear H
    have H := H1
    clear H1
    simp only [Option.some.injEq, Prod.mk.injEq] at H
    obtain ⟨rfl, rfl, rfl, rfl, rfl⟩ := H
    go_enter Try.func14, Try.ntmps14
    go_wp2_with (first | ((with_reducible refine gate_dst (N := 3) rfl ?_); refine boxN_ 3 #[.int .i64 a0_0, .int .i64 a0_1, .int .i64 a0_2, .int .i64 a0_3] 25 ?_; intro gb111 hg w19 hbox hb; have BK111 := Aside0.mk hbox; have GW111 := gw_ (w := w) Z111 hg; have GE111 := gw_ (w := w) Z111 hg; replace HB := Aside0.mk (below_step Z111 hb); clear hb hbox hg) | ((with_reducible refine gate_dst (N := 6) rfl ?_); refine boxN_ 6 #[.int .i64 0, .int .i64 0, .int .i64 0, .int .i64 0] 25 ?_; intro gb112 hg w20 hbox hb; have BK112 := Aside0.mk hbox; have GW112 := gw_ (w := w) Z86 hg; have GE112 := gw_ (w := w) Z86 hg; replace HB := Aside0.mk (below_step Z86 hb); have NB111_112 := nl_ BK111 hg; have NB112_111 := ng_ BK111 hg; replace BK111 := bk_ BK111 hb; clear hb hbox hg; have hnb21 := NB111_112.out; have hnc21 := NB112_111.out; obtain ⟨_, _, _, _, _, _, _, _⟩ := cz4_ BK111) | ((with_reducible refine gate_callee (f := 25) rfl ?_); refine goesN_ 25 (some 9) Try.func25 #[.agg #[.int .i64 a0_0, .int .i64 a0_1, .int .i64 a0_2, .int .i64 a0_3]] ?_; (with_reducible refine (spec_ciGood.calls k a0_0 a0_1 a0_2 a0_3 true _ A4.out).mono ?_); rintro e w23 ⟨rfl, hb⟩; refine ⟨_, rfl, ?_⟩; replace BK111 := bk_ BK111 hb; replace BK112 := bk_ BK112 hb; replace HB := Aside0.mk (below_step Z96 hb); clear hb) | (go_at_call 30; (with_reducible refine (spec_l1In.calls a1 (-1000) 1000 true _ A6.out).mono ?_); rintro e w' ⟨rfl, ⟨nd, rfl⟩⟩; (try (rw [drewN_self w23]; generalize hq_ : World.drewN w23 _ = w23; replace BK111 := bq_ BK111 hq_; replace BK112 := bq_ BK112 hq_; replace HB : Aside0 (Below w.heap.size w w23) := ⟨(by rw [← hq_]; exact Z96)⟩; clear hq_))) | (go_at_call 30; (with_reducible refine (spec_l1In.calls a2 (-1000) 1000 false _ A8.out).mono ?_); rintro e w' ⟨rfl, ⟨nd, rfl⟩⟩; (try (rw [drewN_self w23]; generalize hq_ : World.drewN w23 _ = w23; replace BK111 := bq_ BK111 hq_; replace BK112 := bq_ BK112 hq_; replace HB : Aside0 (Below w.heap.size w w23) := ⟨(by rw [← hq_]; exact Z96)⟩; clear hq_)); obtain ⟨_, _, _, _, _, _, _, _⟩ := cz4_ BK112))
    refine bodyPost_ret (results_ct rfl _ _ gb112 25 #[.int .i64 0, .int .i64 0, .int .i64 0, .int .i64 0] (0, 0) _ rfl Z70 Try.underlying25 rfl Z59) rfl ?_
    exact ⟨Z106, Z96⟩
  ·
   replace c7 := Bool.eq_false_iff.mpr c7
   subst c7
   have H1 : (some (0, 0, 0, 0, false)) = some (r1, r2, r3, r4, r5) := by rw [if_neg (show ¬ (false = true) by decide)] at H; exact H
   clear H
   have H := H1
   clear H1
   simp only [Option.some.injEq, Prod.mk.injEq] at H
   obtain ⟨rfl, rfl, rfl, rfl, rfl⟩ := H
   go_enter Try.func14, Try.ntmps14
   go_wp2_with (first | ((with_reducible refine gate_dst (N := 3) rfl ?_); refine boxN_ 3 #[.int .i64 a0_0, .int .i64 a0_1, .int .i64 a0_2, .int .i64 a0_3] 25 ?_; intro gb111 hg w25 hbox hb; have BK111 := Aside0.mk hbox; have GW111 := gw_ (w := w) Z111 hg; have GE111 := gw_ (w := w) Z111 hg; replace HB := Aside0.mk (below_step Z111 hb); clear hb hbox hg) | ((with_reducible refine gate_dst (N := 6) rfl ?_); refine boxN_ 6 #[.int .i64 0, .int .i64 0, .int .i64 0, .int .i64 0] 25 ?_; intro gb112 hg w26 hbox hb; have BK112 := Aside0.mk hbox; have GW112 := gw_ (w := w) Z86 hg; have GE112 := gw_ (w := w) Z86 hg; replace HB := Aside0.mk (below_step Z86 hb); have NB111_112 := nl_ BK111 hg; have NB112_111 := ng_ BK111 hg; replace BK111 := bk_ BK111 hb; clear hb hbox hg; have hnb27 := NB111_112.out; have hnc27 := NB112_111.out; obtain ⟨_, _, _, _, _, _, _, _⟩ := cz4_ BK111) | ((with_reducible refine gate_callee (f := 25) rfl ?_); refine goesN_ 25 (some 9) Try.func25 #[.agg #[.int .i64 a0_0, .int .i64 a0_1, .int .i64 a0_2, .int .i64 a0_3]] ?_; (with_reducible refine (spec_ciGood.calls k a0_0 a0_1 a0_2 a0_3 true _ A4.out).mono ?_); rintro e w29 ⟨rfl, hb⟩; refine ⟨_, rfl, ?_⟩; replace BK111 := bk_ BK111 hb; replace BK112 := bk_ BK112 hb; replace HB := Aside0.mk (below_step Z96 hb); clear hb) | (go_at_call 30; (with_reducible refine (spec_l1In.calls a1 (-1000) 1000 false _ A6.out).mono ?_); rintro e w' ⟨rfl, ⟨nd, rfl⟩⟩; (try (rw [drewN_self w29]; generalize hq_ : World.drewN w29 _ = w29; replace BK111 := bq_ BK111 hq_; replace BK112 := bq_ BK112 hq_; replace HB : Aside0 (Below w.heap.size w w29) := ⟨(by rw [← hq_]; exact Z96)⟩; clear hq_)); obtain ⟨_, _, _, _, _, _, _, _⟩ := cz4_ BK112))
   refine bodyPost_ret (results_ct rfl _ _ gb112 25 #[.int .i64 0, .int .i64 0, .int .i64 0, .int .i64 0] (0, 0) _ rfl Z70 Try.underlying25 rfl Z59) rfl ?_
   exact ⟨Z106, Z96⟩
 ·
  replace c5 := Bool.eq_false_iff.mpr c5
  subst c5
  have H1 : (some (0, 0, 0, 0, false)) = some (r1, r2, r3, r4, r5) := by rw [if_neg (show ¬ (false = true) by decide)] at H; exact H
  clear H
  have H := H1
  clear H1
  simp only [Option.some.injEq, Prod.mk.injEq] at H
  obtain ⟨rfl, rfl, rfl, rfl, rfl⟩ := H
  go_enter Try.func14, Try.ntmps14
  go_wp2_with (first | ((with_reducible refine gate_dst (N := 3) rfl ?_); refine boxN_ 3 #[.int .i64 a0_0, .int .i64 a0_1, .int .i64 a0_2, .int .i64 a0_3] 25 ?_; intro gb111 hg w31 hbox hb; have BK111 := Aside0.mk hbox; have GW111 := gw_ (w := w) Z111 hg; have GE111 := gw_ (w := w) Z111 hg; replace HB := Aside0.mk (below_step Z111 hb); clear hb hbox hg) | ((with_reducible refine gate_dst (N := 6) rfl ?_); refine boxN_ 6 #[.int .i64 0, .int .i64 0, .int .i64 0, .int .i64 0] 25 ?_; intro gb112 hg w32 hbox hb; have BK112 := Aside0.mk hbox; have GW112 := gw_ (w := w) Z86 hg; have GE112 := gw_ (w := w) Z86 hg; replace HB := Aside0.mk (below_step Z86 hb); have NB111_112 := nl_ BK111 hg; have NB112_111 := ng_ BK111 hg; replace BK111 := bk_ BK111 hb; clear hb hbox hg; have hnb33 := NB111_112.out; have hnc33 := NB112_111.out; obtain ⟨_, _, _, _, _, _, _, _⟩ := cz4_ BK111) | ((with_reducible refine gate_callee (f := 25) rfl ?_); refine goesN_ 25 (some 9) Try.func25 #[.agg #[.int .i64 a0_0, .int .i64 a0_1, .int .i64 a0_2, .int .i64 a0_3]] ?_; (with_reducible refine (spec_ciGood.calls k a0_0 a0_1 a0_2 a0_3 false _ A4.out).mono ?_); rintro e w35 ⟨rfl, hb⟩; refine ⟨_, rfl, ?_⟩; replace BK111 := bk_ BK111 hb; replace BK112 := bk_ BK112 hb; replace HB := Aside0.mk (below_step Z96 hb); clear hb; obtain ⟨_, _, _, _, _, _, _, _⟩ := cz4_ BK112))
  refine bodyPost_ret (results_ct rfl _ _ gb112 25 #[.int .i64 0, .int .i64 0, .int .i64 0, .int .i64 0] (0, 0) _ rfl Z70 Try.underlying25 rfl Z59) rfl ?_
  exact ⟨Z106, Z96⟩

end Go.Proofs.Ytkllcinoodfffaa.P
