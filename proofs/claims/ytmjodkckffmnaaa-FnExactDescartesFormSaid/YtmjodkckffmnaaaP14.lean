/- Written by a program of this session: for Go functions that a statement reaches, Lean functions with the same answers and the proofs that the calls come to them; conditions: none but the arguments' kinds. -/
import Derived.Test.YtmjodkckffmnaaaP0
import Derived.Test.YtmjodkckffmnaaaP8
import Derived.Test.YtmjodkckffmnaaaP9
import Derived.Test.YtmjodkckffmnaaaP10
import Derived.Test.YtmjodkckffmnaaaP11
import Derived.Test.YtmjodkckffmnaaaP12
import Derived.Test.YtmjodkckffmnaaaP13
namespace Go.Proofs.Ytmjodkckffmnaaa.P
open Go.RowKit Go.Proofs.YtmjodkckffmnaaaW.PrintWords Go.Proofs.YtmjodkckffmnaaaW.PrintLast Go.Proofs.YtmjodkckffmnaaaW.PrintMore
attribute [local go_sem] max2_int min2_int max_two min_two max_three min_three max_four min_four   -- for this text's walks alone
set_option linter.unusedVariables false
set_option linter.unusedSimpArgs false

/-! ### laws_FnExactDescartesForm: function 4 -/
def laws_FnExactDescartesForm.Pure : Prop :=
  ∃ k r, spec_DescartesForm.f k = some r ∧ impl_DescartesForm.f = some r ∧ (r.length : Int) ≤ 9223372036854775806 ∧ (cellsOf r : Int) + 1 ≤ 4611686018427387904
set_option maxHeartbeats 16000000 in
set_option maxRecDepth 100000 in
theorem laws_FnExactDescartesForm.walk (P : laws_FnExactDescartesForm.Pure) (w : World) :
    Calls Try.prog 4 #[] w fun e w' => e = .returned (.bool true) ∧ Below w.heap.size w w' := by
  have P_ := P
  obtain ⟨k, r, HS0, HI0, hl, hc⟩ := P_
  have hu := Try.underlying28
  have HS := Aside0.mk HS0
  have HI := Aside0.mk HI0
  have HE := Aside0.mk (show laws_eqMatrix.f (r.length + cellsOf r + 2) r r = some true by unfold laws_eqMatrix.f; rw [eqIntSS_refl r hl (by omega) (r.length + cellsOf r + 2) (by omega)]; rfl)
  have HM := Aside0.mk (markIntSS_f r (r.length + cellsOf r + 2) (by omega) hl hc)
  have HH := Aside0.mk (show laws_heldMatrix.f (r.length + cellsOf r + 2) (mkS 1 r) 1 = some (1 + (cellsOf r : Int)) by unfold laws_heldMatrix.f; rw [heldIntSS_f r (r.length + cellsOf r + 2) (by omega) hl hc]; simp only [Option.bind_some]; rw [if_neg (by omega)])
  have HML := Aside0.mk (mkS_length r 1)
  have hm0 : (0 : Int) ≤ cellsOf r := by omega
  have hm1 : (cellsOf r : Int) ≤ 4611686018427387904 := by omega
  have HP := Aside0.mk P
  clear HS0 HI0 hl hc P
  replace HP := Aside0.mk trivial
  generalize mkS 1 r = r2 at HM HH HML
  generalize hcc : (cellsOf r : Int) = c at HM HH hm0 hm1
  clear hcc
  go_enter Try.func4, Try.ntmps4
  go_wp2_with fail
  refine (spec_DescartesForm.calls k _ _ HS.out).mono ?_
  rintro e w1 ⟨vw, rfl, hw1, hb1⟩
  replace hw1 := Aside0.mk (show Kd.N (Kd.slice 3 (Kd.int .i64)) 22 w1 w.heap.size (fun _ => True) vw r from by first | exact Kd.N_mono hw1 (fun _ _ => trivial) | exact Kd.N_mono (Kd.S_N hw1) (fun _ _ => trivial) | exact Kd.N_mono (Kd.R_N hw1) (fun _ _ => trivial))
  replace hb1 := Aside0.mk hb1
  obtain ⟨Aw, cw, ew⟩ := Kd.N_slice hw1.out
  subst ew
  go_wp2_with fail
  refine (impl_DescartesForm.calls _ _ HI.out).mono ?_
  rintro e w2 ⟨vg, rfl, hw2, hb2⟩
  have hz : (w1.alloc (.cells #[.slice Aw r.length cw] 28)).heap.size = w1.heap.size + 1 := by simp
  have HG2 := Aside0.mk (Kd.S_lower (Kd.S_mono (Kd.S_bound hw2) (ok' := fun q => w1.heap.size < q ∧ q < w2.heap.size) (fun _ hk => ⟨by have := hk.2.1; omega, hk.2.2.1⟩)) (show w1.heap.size ≤ _ by omega))
  obtain ⟨Ag, cg, eg⟩ := Kd.R_slice (Kd.S_R HG2.out)
  subst eg
  have hn2 : w1.heap.size < w2.heap.size := Nat.lt_of_lt_of_le (by omega) hb2.size
  have BK0 := Aside0.mk (blk_below (show (w1.alloc (.cells #[.slice Aw r.length cw] 28)).heap[w1.heap.size]? = some (.cells #[.slice Aw r.length cw] 28 (0, 0)) from heap_alloc_new w1 _) hb2)
  have HB2 := Aside0.mk (show Below w1.heap.size w1 w2 from below_then (below_alloc (Below.refl _ _) _) (by simp) hb2)
  have hc0 : w2.cell? ⟨w1.heap.size, 0, none⟩ = some (.slice Aw r.length cw) := (blk_cell BK0.out 0).trans rfl
  clear hw2 hb2 hz
  go_wp2_with fail
  have HG3 := Aside0.mk (Kd.S_alloc HG2.out (.cells #[.slice Ag r.length cg] 28))
  have HB3 := Aside0.mk (HB2.out.alloc HB2.out.size (.cells #[.slice Ag r.length cg] 28))
  have BK0' := Aside0.mk (blk_alloc BK0.out (.cells #[.slice Ag r.length cg] 28))
  have BK5' := Aside0.mk (show (w2.alloc (.cells #[.slice Ag r.length cg] 28)).heap[w2.heap.size]? = some (.cells #[.slice Ag r.length cg] 28 (0, 0)) from heap_alloc_new w2 _)
  refine (laws_eqMatrix.calls (r.length + cellsOf r + 2) Ag cg r Aw cw r true _ (Kd.S_reads' HG3.out).2.2 (Kd.S_reads' HG3.out).2.1 (Kd.N_reads' (Kd.N_below hw1.out HB3.out)).2.2 (Kd.N_reads' hw1.out).2.1 HE.out).mono ?_
  rintro e w3 ⟨rfl, hb3⟩
  have B0 := Aside0.mk (blk_below BK0'.out hb3)
  have B5 := Aside0.mk (blk_below BK5'.out hb3)
  have HG := Aside0.mk (Kd.S_below HG3.out hb3)
  have HBn := Aside0.mk (show Below w1.heap.size w1 w3 from below_then HB3.out HB3.out.size hb3)
  clear BK0 BK0' BK5' HG2 HG3 HB2 HB3 hc0 hb3
  have hc5 : w3.cell? ⟨w2.heap.size, 0, none⟩ = some (.slice Ag r.length cg) := (blk_cell B5.out 0).trans rfl
  go_wp2_with fail
  refine (laws_markMatrix.calls (r.length + cellsOf r + 2) _ _ r 1 _ r2 w1 _ HBn.out HG.out HM.out).mono ?_
  rintro e w4 ⟨rfl, hg4, hb4, hk4⟩
  have C0 := Aside0.mk (blk_kept B0.out hk4 (fun hq => by omega))
  have C5 := Aside0.mk (blk_kept B5.out hk4 (fun hq => by omega))
  have HG4 := Aside0.mk hg4
  have HB4 := Aside0.mk hb4
  clear hc5 B0 B5 HG HBn hg4 hb4 hk4
  have hhd : ∀ W, Below w4.heap.size w4 W → Calls Try.prog 27 #[.agg #[.slice Ag r.length cg], .int .i64 1] W fun e w' => e = .returned (.int .i64 (1 + c)) ∧ Below W.heap.size W w' := fun W hW => by
    have hS4 := Kd.S_reads' (Kd.S_below HG4.out hW)
    have hcl := laws_heldMatrix.calls (r.length + cellsOf r + 2) Ag cg r2 1 (1 + c) W hS4.2.2 (by rw [← hS4.1]; exact hS4.2.1) HH.out
    rw [← hS4.1] at hcl
    exact hcl
  replace hhd := Aside0.mk hhd
  have hc5 : w4.cell? ⟨w2.heap.size, 0, none⟩ = some (.slice Ag r.length cg) := (blk_cell C5.out 0).trans rfl
  go_wp2_with fail
  refine (hhd.out _ (Below.refl _ _)).mono ?_
  rintro e w5 ⟨rfl, hb5⟩
  have HB5 := Aside0.mk hb5
  clear hc5 hb5
  go_wp2_with fail
  refine (impl_DescartesForm.calls _ _ HI.out).mono ?_
  rintro e w6 ⟨vh, rfl, hw6, hb6⟩
  have HB6 := Aside0.mk (show Below w4.heap.size w4 w6 from below_then HB5.out HB5.out.size hb6)
  have HW6 := Aside0.mk (show Kd.N (Kd.slice 3 (Kd.int .i64)) 22 w6 _ (fun _ => True) vh r from Kd.N_mono (Kd.S_N hw6) (fun _ _ => trivial))
  obtain ⟨Ah, ch, eh⟩ := Kd.N_slice HW6.out
  subst eh
  have hn6 : w2.heap.size < w6.heap.size := Nat.lt_of_lt_of_le (blk_lt C5.out) HB6.out.size
  have hn5 : w1.heap.size < w6.heap.size := by omega
  have hc0 : w6.cell? ⟨w1.heap.size, 0, none⟩ = some (.slice Aw r.length cw) := (blk_cell (blk_below C0.out HB6.out) 0).trans rfl
  clear hw6 hb6 HB5
  go_wp2_with fail
  have HB7 := Aside0.mk (HB6.out.alloc HB6.out.size (.cells #[.slice Ah r.length ch] 28))
  have HW7 := Aside0.mk (Kd.N_alloc HW6.out (.cells #[.slice Ah r.length ch] 28))
  refine (laws_eqMatrix.calls (r.length + cellsOf r + 2) Ah ch r Aw cw r true _ (Kd.N_reads' HW7.out).2.2 (Kd.N_reads' HW7.out).2.1 (Kd.N_reads' (Kd.N_below hw1.out (below_then HB4.out HB4.out.size HB7.out))).2.2 (Kd.N_reads' hw1.out).2.1 HE.out).mono ?_
  rintro e w8 ⟨rfl, hb8⟩
  have HB8 := Aside0.mk (show Below w4.heap.size w4 w8 from below_then HB7.out HB7.out.size hb8)
  clear hc0 HB6 HB7 HW6 HW7 hb8
  have hc5 : w8.cell? ⟨w2.heap.size, 0, none⟩ = some (.slice Ag r.length cg) := (blk_cell (blk_below C5.out HB8.out) 0).trans rfl
  go_wp2_with fail
  refine (hhd.out _ HB8.out).mono ?_
  rintro e w9 ⟨rfl, hb9⟩
  have HB9 := Aside0.mk (show Below w.heap.size w w9 from below_then hb1.out hb1.out.size (below_then HB4.out HB4.out.size (below_then HB8.out HB8.out.size hb9)))
  clear hb9
  go_wp2
  go_ret
  exact ⟨rfl, HB9.out⟩

/-! ### spec_l1Most: function 124 -/
def spec_l1Most.f (a0 : Int) (a1 : Int) : Option (Int) := if a0 > a1 then (some a0) else (some a1)
set_option maxHeartbeats 8000000 in
set_option maxRecDepth 100000 in
theorem spec_l1Most.calls (a0 : Int) (a1 : Int) (r : Int) (w : World) (h : spec_l1Most.f a0 a1 = some r) :
    Calls Try.prog 124 #[.int .i64 a0, .int .i64 a1] w fun e w' => e = .returned (.int .i64 r) ∧ Drawn0 w w' := by
  have H : (if a0 > a1 then (some a0) else (some a1)) = some r := h
  clear h
  by_cases c3 : a0 > a1
  · rw [if_pos c3] at H
    have c3b0 : decide (a1 < a0) = true := decide_eq_true c3
    clear c3
    obtain rfl := Option.some.inj H
    go_enter Try.func124, Try.ntmps124
    go_wp2
    go_ret
    exact ⟨by first | rfl | (simp; done) | (simp [*]; done), by repeat (first | exact Drawn0.refl _ | apply Drawn0.step)⟩
  · rw [if_neg c3] at H
    have c3b0 : decide (a1 < a0) = false := decide_eq_false c3
    clear c3
    obtain rfl := Option.some.inj H
    go_enter Try.func124, Try.ntmps124
    go_wp2
    go_ret
    exact ⟨by first | rfl | (simp; done) | (simp [*]; done), by repeat (first | exact Drawn0.refl _ | apply Drawn0.step)⟩

/-! ### spec_l1Abs: function 118 -/
def spec_l1Abs.f (a0 : Int) : Option (Int) := (spec_l1Most.f a0 (wrap64 (-a0))).bind fun t166 => (some t166)
set_option maxHeartbeats 8000000 in
set_option maxRecDepth 100000 in
theorem spec_l1Abs.calls (a0 : Int) (r : Int) (w : World) (h : spec_l1Abs.f a0 = some r) :
    Calls Try.prog 118 #[.int .i64 a0] w fun e w' => e = .returned (.int .i64 r) ∧ Drawn0 w w' := by
  have H : ((spec_l1Most.f a0 (wrap64 (-a0))).bind fun t166 => (some t166)) = some r := h
  clear h
  replace H := Option.bind_eq_some_iff.mp H
  obtain ⟨t166, A20, H⟩ := H
  replace H : (some t166) = some r := H
  have A2 := Aside0.mk A20
  clear A20
  obtain rfl := Option.some.inj H
  go_enter Try.func118, Try.ntmps118
  go_wp2_with (first | ((with_reducible refine gate_callee (f := 124) rfl ?_); refine goesL_ (some 6) rfl rfl Try.func124 (by kernel_rfl) rfl #[.int .i64 a0, .int .i64 (wrap64 (-a0))] rfl (by (try simp only [List.map_toArray, List.map_cons, List.map_nil]); first | done | rfl | (simp only [List.length_drop, List.length_take]; rfl)) ?_; (with_reducible refine (spec_l1Most.calls a0 (wrap64 (-a0)) t166 _ A2.out).mono ?_); rintro e w' ⟨rfl, ⟨nd, rfl⟩⟩; refine ⟨_, rfl, ?_⟩))
  go_ret
  exact ⟨by first | rfl | (simp; done) | (simp [*]; done), by repeat (first | exact Drawn0.refl _ | apply Drawn0.step)⟩

/-! ### spec_foGcd: function 100 -/
def spec_foGcd.f : Nat → Int → Int → Option (Int)
  | 0, _, _ => none
  | k + 1, a0, a1 => if a1 = 0 then ((spec_l1Abs.f a0).bind fun t167 => (some t167)) else ((spec_foGcd.f k a1 (Int.tmod a0 a1)).bind fun t168 => (some t168))
theorem spec_foGcd.mono_l : ∀ k, (∀ y0 y1, LeO (spec_foGcd.f k y0 y1) (spec_foGcd.f (k + 1) y0 y1))
  | 0 => fun _ _ r h => by simp [spec_foGcd.f] at h
  | k + 1 => by
    have ih0 := spec_foGcd.mono_l k
    · intro y0 y1
      unfold spec_foGcd.f
      repeat' first
      | (with_reducible exact ih0 _ _)
      | (with_reducible exact LeO.refl _)
      | (with_reducible exact LeO.none _)
      | (with_reducible refine LeO.ite ?_ ?_)
      | (with_reducible refine LeO.bind ?_ (fun _ => ?_))
      | exact ih0 _ _
      | exact LeO.none _
      | refine LeO.ite ?_ ?_
      | refine LeO.bind ?_ (fun _ => ?_)
theorem spec_foGcd.mono : ∀ a0 a1 k, LeO (spec_foGcd.f k a0 a1) (spec_foGcd.f (k + 1) a0 a1) := by
  intro a0 a1 k
  have ih0 := spec_foGcd.mono_l k
  exact ih0 a0 a1
set_option maxHeartbeats 8000000 in
set_option maxRecDepth 100000 in
theorem spec_foGcd.calls (k : Nat) : ∀ (a0 : Int) (a1 : Int) (r : Int) (w : World) (h : spec_foGcd.f k a0 a1 = some r),
    Calls Try.prog 100 #[.int .i64 a0, .int .i64 a1] w fun e w' => e = .returned (.int .i64 r) ∧ Drawn0 w w' := by
  induction k using Nat.strongRecOn with
  | _ k ih =>
  intro a0 a1 r w h
  cases k with
  | zero => exact absurd h (by simp [spec_foGcd.f])
  | succ k =>
  simp only [spec_foGcd.f] at h
  have H : (if a1 = 0 then ((spec_l1Abs.f a0).bind fun t167 => (some t167)) else ((spec_foGcd.f k a1 (Int.tmod a0 a1)).bind fun t168 => (some t168))) = some r := h
  clear h
  by_cases c3 : a1 = 0
  · rw [if_pos c3] at H
    have c3b0 : (a1 == 0) = true := beq_iff_eq.mpr c3
    have c3b1 : (a1 != 0) = false := bne_eq_false_iff_eq.mpr c3
    clear c3
    replace H := Option.bind_eq_some_iff.mp H
    obtain ⟨t167, A40, H⟩ := H
    replace H : (some t167) = some r := H
    have A4 := Aside0.mk A40
    clear A40
    obtain rfl := Option.some.inj H
    go_enter Try.func100, Try.ntmps100
    go_wp2_with (first | ((with_reducible refine gate_callee (f := 118) rfl ?_); refine goesL_ (some 8) rfl rfl Try.func118 (by kernel_rfl) rfl #[.int .i64 a0] rfl (by (try simp only [List.map_toArray, List.map_cons, List.map_nil]); first | done | rfl | (simp only [List.length_drop, List.length_take]; rfl)) ?_; (with_reducible refine (spec_l1Abs.calls a0 t167 _ A4.out).mono ?_); rintro e w' ⟨rfl, ⟨nd, rfl⟩⟩; refine ⟨_, rfl, ?_⟩))
    go_ret
    exact ⟨by first | rfl | (simp; done) | (simp [*]; done), by repeat (first | exact Drawn0.refl _ | apply Drawn0.step)⟩
  · rw [if_neg c3] at H
    have c3b0 : (a1 == 0) = false := beq_eq_false_iff_ne.mpr c3
    have c3b1 : (a1 != 0) = true := bne_iff_ne.mpr c3
    replace H := Option.bind_eq_some_iff.mp H
    obtain ⟨t168, A50, H⟩ := H
    replace H : (some t168) = some r := H
    have A5 := Aside0.mk A50
    clear A50
    obtain rfl := Option.some.inj H
    go_enter Try.func100, Try.ntmps100
    go_wp2_with (first | ((with_reducible refine gate_callee (f := 100) rfl ?_); refine goesL_ (some 13) rfl rfl Try.func100 (by kernel_rfl) rfl #[.int .i64 a1, .int .i64 (Int.tmod a0 a1)] rfl (by (try simp only [List.map_toArray, List.map_cons, List.map_nil]); first | done | rfl | (simp only [List.length_drop, List.length_take]; rfl)) ?_; (with_reducible refine (ih k (by omega) a1 (Int.tmod a0 a1) t168 _ A5.out).mono ?_); rintro e w' ⟨rfl, ⟨nd, rfl⟩⟩; refine ⟨_, rfl, ?_⟩))
    go_ret
    exact ⟨by first | rfl | (simp; done) | (simp [*]; done), by repeat (first | exact Drawn0.refl _ | apply Drawn0.step)⟩

end Go.Proofs.Ytmjodkckffmnaaa.P
