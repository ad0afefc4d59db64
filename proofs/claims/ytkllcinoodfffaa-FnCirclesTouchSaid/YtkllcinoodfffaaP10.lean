/- Written by a program of this session: for Go functions that a statement reaches, Lean functions with the same answers and the proofs that the calls come to them; conditions: none but the arguments' kinds. -/
import Derived.Test.YtkllcinoodfffaaP0
import Derived.Test.YtkllcinoodfffaaP1
import Derived.Test.YtkllcinoodfffaaP7
import Derived.Test.YtkllcinoodfffaaP9
namespace Go.Proofs.Ytkllcinoodfffaa.P
open Go.RowKit Go.Proofs.YtkllcinoodfffaaW.PrintWords Go.Proofs.YtkllcinoodfffaaW.PrintLast Go.Proofs.YtkllcinoodfffaaW.PrintMore
attribute [local go_sem] max2_int min2_int max_two min_two max_three min_three max_four min_four   -- for this text's walks alone
set_option linter.unusedVariables false
set_option linter.unusedSimpArgs false

/-! ### spec_ReflectCircle: function 18 -/
def spec_ReflectCircle.j0 : Nat → Bool → Int → Int → Int → Int → Int → Int → Int → Int → Option (Int × Int × Int × Int × Bool)
  | 0, _, _, _, _, _, _, _, _, _ => none
  | k + 1, x14, x370000, x370001, x370002, x370003, x371000, x371001, x371002, x371003 => if x14 = true then (some (0, 0, 0, 0, false)) else ((spec_ciTwice.f x370000 x370001 x370002 x370003 x371000 x371001 x371002 x371003).bind fun t374 => ((spec_ciFits.f t374 x371000).bind fun t375 => (if t375 = true then ((spec_ciFits.f t374 x371001).bind fun t376 => (if t376 = true then ((spec_ciFits.f t374 x371002).bind fun t377 => (if t377 = true then ((spec_ciFits.f t374 x371003).bind fun t378 => (if t378 = true then ((spec_ciIf.f k (wrap64 (x370000 - (wrap64 (t374 * x371000)))) (wrap64 (x370001 - (wrap64 (t374 * x371001)))) (wrap64 (x370002 - (wrap64 (t374 * x371002)))) (wrap64 (x370003 - (wrap64 (t374 * x371003))))).bind fun bt379 => (some (bt379.1, bt379.2.1, bt379.2.2.1, bt379.2.2.2.1, bt379.2.2.2.2))) else (some (0, 0, 0, 0, false)))) else (some (0, 0, 0, 0, false)))) else (some (0, 0, 0, 0, false)))) else (some (0, 0, 0, 0, false)))))
def spec_ReflectCircle.f (k : Nat) (a0_0 : Int) (a0_1 : Int) (a0_2 : Int) (a0_3 : Int) (a1_0 : Int) (a1_1 : Int) (a1_2 : Int) (a1_3 : Int) : Option (Int × Int × Int × Int × Bool) := (spec_ciGood.f k a0_0 a0_1 a0_2 a0_3).bind fun t372 => (if t372 = true then ((spec_ciGood.f k a1_0 a1_1 a1_2 a1_3).bind fun t373 => (spec_ReflectCircle.j0 k (!t373) a0_0 a0_1 a0_2 a0_3 a1_0 a1_1 a1_2 a1_3)) else (spec_ReflectCircle.j0 k true a0_0 a0_1 a0_2 a0_3 a1_0 a1_1 a1_2 a1_3))
theorem spec_ReflectCircle.mono_l : ∀ k, (∀ y0 y1 y2 y3 y4 y5 y6 y7 y8, LeO (spec_ReflectCircle.j0 k y0 y1 y2 y3 y4 y5 y6 y7 y8) (spec_ReflectCircle.j0 (k + 1) y0 y1 y2 y3 y4 y5 y6 y7 y8))
  | 0 => fun _ _ _ _ _ _ _ _ _ r h => by simp [spec_ReflectCircle.j0] at h
  | k + 1 => by
    have ih0 := spec_ReflectCircle.mono_l k
    · intro y0 y1 y2 y3 y4 y5 y6 y7 y8
      unfold spec_ReflectCircle.j0
      repeat' first
      | (with_reducible exact ih0 _ _ _ _ _ _ _ _ _)
      | (with_reducible exact spec_ciGood.mono _ _ _ _ _)
      | (with_reducible exact spec_ciIf.mono _ _ _ _ _)
      | (with_reducible exact LeO.refl _)
      | (with_reducible exact LeO.none _)
      | (with_reducible refine LeO.ite ?_ ?_)
      | (with_reducible refine LeO.bind ?_ (fun _ => ?_))
      | exact ih0 _ _ _ _ _ _ _ _ _
      | exact spec_ciGood.mono _ _ _ _ _
      | exact spec_ciIf.mono _ _ _ _ _
      | exact LeO.none _
      | refine LeO.ite ?_ ?_
      | refine LeO.bind ?_ (fun _ => ?_)
theorem spec_ReflectCircle.mono : ∀ a0 a1 a2 a3 a4 a5 a6 a7 k, LeO (spec_ReflectCircle.f k a0 a1 a2 a3 a4 a5 a6 a7) (spec_ReflectCircle.f (k + 1) a0 a1 a2 a3 a4 a5 a6 a7) := by
  intro a0 a1 a2 a3 a4 a5 a6 a7 k
  have ih0 := spec_ReflectCircle.mono_l k
  unfold spec_ReflectCircle.f
  repeat' first
      | (with_reducible exact ih0 _ _ _ _ _ _ _ _ _)
      | (with_reducible exact spec_ciGood.mono _ _ _ _ _)
      | (with_reducible exact spec_ciIf.mono _ _ _ _ _)
      | (with_reducible exact LeO.refl _)
      | (with_reducible exact LeO.none _)
      | (with_reducible refine LeO.ite ?_ ?_)
      | (with_reducible refine LeO.bind ?_ (fun _ => ?_))
      | exact ih0 _ _ _ _ _ _ _ _ _
      | exact spec_ciGood.mono _ _ _ _ _
      | exact spec_ciIf.mono _ _ _ _ _
      | exact LeO.none _
      | refine LeO.ite ?_ ?_
      | refine LeO.bind ?_ (fun _ => ?_)
set_option maxHeartbeats 8000000 in
set_option maxRecDepth 100000 in
theorem spec_ReflectCircle.calls (k : Nat) (a0_0 : Int) (a0_1 : Int) (a0_2 : Int) (a0_3 : Int) (a1_0 : Int) (a1_1 : Int) (a1_2 : Int) (a1_3 : Int) (r1 : Int) (r2 : Int) (r3 : Int) (r4 : Int) (r5 : Bool) (w : World) (h : spec_ReflectCircle.f k a0_0 a0_1 a0_2 a0_3 a1_0 a1_1 a1_2 a1_3 = some (r1, r2, r3, r4, r5)) :
  Calls Try.prog 18 #[.agg #[.int .i64 a0_0, .int .i64 a0_1, .int .i64 a0_2, .int .i64 a0_3], .agg #[.int .i64 a1_0, .int .i64 a1_1, .int .i64 a1_2, .int .i64 a1_3]] w fun e w' => e = .returned (.tuple #[.agg #[.int .i64 r1, .int .i64 r2, .int .i64 r3, .int .i64 r4], .bool r5]) ∧ Below w.heap.size w w' := by
 have hu25 := Try.underlying25
 have HB := Aside0.mk (Below.refl w.heap.size w)
 have H : ((spec_ciGood.f k a0_0 a0_1 a0_2 a0_3).bind fun t372 => (if t372 = true then ((spec_ciGood.f k a1_0 a1_1 a1_2 a1_3).bind fun t373 => (spec_ReflectCircle.j0 k (!t373) a0_0 a0_1 a0_2 a0_3 a1_0 a1_1 a1_2 a1_3)) else (spec_ReflectCircle.j0 k true a0_0 a0_1 a0_2 a0_3 a1_0 a1_1 a1_2 a1_3))) = some (r1, r2, r3, r4, r5) := h
 clear h
 have HC3 := Aside0.mk H
 clear H
 go_enter Try.func18, Try.ntmps18
 go_upto_region 1 with (first | ((with_reducible refine gate_dst (N := 2) rfl ?_); refine boxN_ 2 #[.int .i64 a0_0, .int .i64 a0_1, .int .i64 a0_2, .int .i64 a0_3] 25 ?_; intro gb369 hg w4 hbox hb; have BK369 := Aside0.mk hbox; have GW369 := gw_ (w := w) Z111 hg; have GE369 := gw_ (w := w) Z111 hg; replace HB := Aside0.mk (below_step Z111 hb); clear hb hbox hg) | ((with_reducible refine gate_dst (N := 3) rfl ?_); refine boxN_ 3 #[.int .i64 a1_0, .int .i64 a1_1, .int .i64 a1_2, .int .i64 a1_3] 25 ?_; intro gb370 hg w5 hbox hb; have BK370 := Aside0.mk hbox; have GW370 := gw_ (w := w) Z13 hg; have GE370 := gw_ (w := w) Z13 hg; replace HB := Aside0.mk (below_step Z13 hb); have NB369_370 := nl_ BK369 hg; have NB370_369 := ng_ BK369 hg; replace BK369 := bk_ BK369 hb; clear hb hbox hg) | ((with_reducible refine gate_dst (N := 4) rfl ?_); refine boxN_ 4 #[.int .i64 0, .int .i64 0, .int .i64 0, .int .i64 0] 25 ?_; intro gb371 hg w6 hbox hb; have BK371 := Aside0.mk hbox; have GW371 := gw_ (w := w) Z17 hg; have GE371 := gw_ (w := w) Z17 hg; replace HB := Aside0.mk (below_step Z17 hb); have NB369_371 := nl_ BK369 hg; have NB371_369 := ng_ BK369 hg; replace BK369 := bk_ BK369 hb; have NB370_371 := nl_ BK370 hg; have NB371_370 := ng_ BK370 hg; replace BK370 := bk_ BK370 hb; clear hb hbox hg))
 (try simp only [Act.put, List.setIfInBounds_toArray, List.set_cons_zero, List.set_cons_succ])
 go_cut [14] (fun v14 wc => ∃ (kq : Nat) (x14_2 : Bool), v14 = .bool x14_2 ∧ Aside0 (spec_ReflectCircle.j0 kq x14_2 a0_0 a0_1 a0_2 a0_3 a1_0 a1_1 a1_2 a1_3 = some (r1, r2, r3, r4, r5)) ∧ Aside0 (kq ≤ k) ∧ Aside0 (wc.heap[gb369]? = some (.cells #[.int .i64 a0_0, .int .i64 a0_1, .int .i64 a0_2, .int .i64 a0_3] 25 (0, 0))) ∧ Aside0 (wc.heap[gb370]? = some (.cells #[.int .i64 a1_0, .int .i64 a1_1, .int .i64 a1_2, .int .i64 a1_3] 25 (0, 0))) ∧ Aside0 (wc.heap[gb371]? = some (.cells #[.int .i64 0, .int .i64 0, .int .i64 0, .int .i64 0] 25 (0, 0))) ∧ Aside0 (Below w.heap.size w wc))
 case first =>
  have H := HC3.out
  clear HC3
  replace H := Option.bind_eq_some_iff.mp H
  obtain ⟨t372, A70, H⟩ := H
  replace H : (if t372 = true then ((spec_ciGood.f k a1_0 a1_1 a1_2 a1_3).bind fun t373 => (spec_ReflectCircle.j0 k (!t373) a0_0 a0_1 a0_2 a0_3 a1_0 a1_1 a1_2 a1_3)) else (spec_ReflectCircle.j0 k true a0_0 a0_1 a0_2 a0_3 a1_0 a1_1 a1_2 a1_3)) = some (r1, r2, r3, r4, r5) := H
  have A7 := Aside0.mk A70
  clear A70
  by_cases c8 : t372 = true
  ·
   subst c8
   have H1 : ((spec_ciGood.f k a1_0 a1_1 a1_2 a1_3).bind fun t373 => (spec_ReflectCircle.j0 k (!t373) a0_0 a0_1 a0_2 a0_3 a1_0 a1_1 a1_2 a1_3)) = some (r1, r2, r3, r4, r5) := by rw [if_pos rfl] at H; exact H
   clear H
   have H := H1
   clear H1
   replace H := Option.bind_eq_some_iff.mp H
   obtain ⟨t373, A90, H⟩ := H
   replace H : (spec_ReflectCircle.j0 k (!t373) a0_0 a0_1 a0_2 a0_3 a1_0 a1_1 a1_2 a1_3) = some (r1, r2, r3, r4, r5) := H
   have A9 := Aside0.mk A90
   clear A90
   have H' := Aside0.mk H
   clear H
   have hnb10 := NB369_370.out
   have hnc10 := NB370_369.out
   have hnb11 := NB369_371.out
   have hnc11 := NB371_369.out
   have hcz12_0 : w6.cell? ⟨gb369, 0, none⟩ = some (.int .i64 a0_0) := (blk_cell BK369.out 0).trans rfl
   have hcz12_1 : w6.cell? ⟨gb369, 1, none⟩ = some (.int .i64 a0_1) := (blk_cell BK369.out 1).trans rfl
   have hcz12_2 : w6.cell? ⟨gb369, 2, none⟩ = some (.int .i64 a0_2) := (blk_cell BK369.out 2).trans rfl
   have hcz12_3 : w6.cell? ⟨gb369, 3, none⟩ = some (.int .i64 a0_3) := (blk_cell BK369.out 3).trans rfl
   have hfz12_0 := blk_frozen BK369.out 0
   have hfz12_1 := blk_frozen BK369.out 1
   have hfz12_2 := blk_frozen BK369.out 2
   have hfz12_3 := blk_frozen BK369.out 3
   go_wp2_with (first | ((with_reducible refine gate_callee (f := 25) rfl ?_); refine goesN_ 25 (some 8) Try.func25 #[.agg #[.int .i64 a0_0, .int .i64 a0_1, .int .i64 a0_2, .int .i64 a0_3]] ?_; (with_reducible refine (spec_ciGood.calls k a0_0 a0_1 a0_2 a0_3 true _ A7.out).mono ?_); rintro e w13 ⟨rfl, hb⟩; refine ⟨_, rfl, ?_⟩; replace BK369 := bk_ BK369 hb; replace BK370 := bk_ BK370 hb; replace BK371 := bk_ BK371 hb; replace HB := Aside0.mk (below_step Z107 hb); clear hb; have hnb14 := NB370_371.out; have hnc14 := NB371_370.out; obtain ⟨_, _, _, _, _, _, _, _⟩ := cz4_ BK370) | (go_at_call 25; (with_reducible refine (spec_ciGood.calls k a1_0 a1_1 a1_2 a1_3 t373 _ A9.out).mono ?_); rintro e w16 ⟨rfl, hb⟩; replace BK369 := bk_ BK369 hb; replace BK370 := bk_ BK370 hb; replace BK371 := bk_ BK371 hb; replace HB := Aside0.mk (below_step Z107 hb); clear hb))
   go_meet
   case rel => exact ⟨_, (!t373), Z91, H', ⟨Z27⟩, ⟨(by (with_reducible repeat (first | refine blk_drewN ?_ _ | refine blk_drew ?_ | refine blk_alloc ?_ _)); exact BK369.out)⟩, ⟨(by (with_reducible repeat (first | refine blk_drewN ?_ _ | refine blk_drew ?_ | refine blk_alloc ?_ _)); exact BK370.out)⟩, ⟨(by (with_reducible repeat (first | refine blk_drewN ?_ _ | refine blk_drew ?_ | refine blk_alloc ?_ _)); exact BK371.out)⟩, ⟨Z107⟩⟩
  ·
   replace c8 := Bool.eq_false_iff.mpr c8
   subst c8
   have H1 : (spec_ReflectCircle.j0 k true a0_0 a0_1 a0_2 a0_3 a1_0 a1_1 a1_2 a1_3) = some (r1, r2, r3, r4, r5) := by rw [if_neg (show ¬ (false = true) by decide)] at H; exact H
   clear H
   have H := H1
   clear H1
   have H' := Aside0.mk H
   clear H
   have hnb17 := NB369_370.out
   have hnc17 := NB370_369.out
   have hnb18 := NB369_371.out
   have hnc18 := NB371_369.out
   have hcz19_0 : w6.cell? ⟨gb369, 0, none⟩ = some (.int .i64 a0_0) := (blk_cell BK369.out 0).trans rfl
   have hcz19_1 : w6.cell? ⟨gb369, 1, none⟩ = some (.int .i64 a0_1) := (blk_cell BK369.out 1).trans rfl
   have hcz19_2 : w6.cell? ⟨gb369, 2, none⟩ = some (.int .i64 a0_2) := (blk_cell BK369.out 2).trans rfl
   have hcz19_3 : w6.cell? ⟨gb369, 3, none⟩ = some (.int .i64 a0_3) := (blk_cell BK369.out 3).trans rfl
   have hfz19_0 := blk_frozen BK369.out 0
   have hfz19_1 := blk_frozen BK369.out 1
   have hfz19_2 := blk_frozen BK369.out 2
   have hfz19_3 := blk_frozen BK369.out 3
   go_wp2_with (first | ((with_reducible refine gate_callee (f := 25) rfl ?_); refine goesN_ 25 (some 8) Try.func25 #[.agg #[.int .i64 a0_0, .int .i64 a0_1, .int .i64 a0_2, .int .i64 a0_3]] ?_; (with_reducible refine (spec_ciGood.calls k a0_0 a0_1 a0_2 a0_3 false _ A7.out).mono ?_); rintro e w20 ⟨rfl, hb⟩; refine ⟨_, rfl, ?_⟩; replace BK369 := bk_ BK369 hb; replace BK370 := bk_ BK370 hb; replace BK371 := bk_ BK371 hb; replace HB := Aside0.mk (below_step Z107 hb); clear hb))
   go_meet
   case rel => exact ⟨_, (true), Z91, H', ⟨Z27⟩, ⟨(by (with_reducible repeat (first | refine blk_drewN ?_ _ | refine blk_drew ?_ | refine blk_alloc ?_ _)); exact BK369.out)⟩, ⟨(by (with_reducible repeat (first | refine blk_drewN ?_ _ | refine blk_drew ?_ | refine blk_alloc ?_ _)); exact BK370.out)⟩, ⟨(by (with_reducible repeat (first | refine blk_drewN ?_ _ | refine blk_drew ?_ | refine blk_alloc ?_ _)); exact BK371.out)⟩, ⟨Z107⟩⟩
 case rest =>
  clear HC3
  try clear c1
  try clear c2
  try clear p2
  try clear c8
  try clear c10
  try clear c11
  try clear c14
  try clear c17
  try clear c18
  try clear hcz12_0
  try clear hcz12_1
  try clear hcz12_2
  try clear hcz12_3
  try clear hcz15_0
  try clear hcz15_1
  try clear hcz15_2
  try clear hcz15_3
  try clear hcz19_0
  try clear hcz19_1
  try clear hcz19_2
  try clear hcz19_3
  try clear hfz12_0
  try clear hfz12_1
  try clear hfz12_2
  try clear hfz12_3
  try clear hfz15_0
  try clear hfz15_1
  try clear hfz15_2
  try clear hfz15_3
  try clear hfz19_0
  try clear hfz19_1
  try clear hfz19_2
  try clear hfz19_3
  obtain ⟨kq, x14_2, rfl, HA, HJ2, BK369, BK370, BK371, HB⟩ := hcut
  cases kq with
  | zero => exact absurd HA.out (by simp [spec_ReflectCircle.j0])
  | succ kj2 =>
   have H := HA.out
   clear HA
   simp only [spec_ReflectCircle.j0] at H
   by_cases c21 : x14_2 = true
   ·
    subst c21
    have H1 : (some (0, 0, 0, 0, false)) = some (r1, r2, r3, r4, r5) := by rw [if_pos rfl] at H; exact H
    clear H
    have H := H1
    clear H1
    simp only [Option.some.injEq, Prod.mk.injEq] at H
    obtain ⟨rfl, rfl, rfl, rfl, rfl⟩ := H
    have hnb22 := NB371_369.out
    have hnc22 := NB369_371.out
    have hnb23 := NB371_370.out
    have hnc23 := NB370_371.out
    have hcz24_0 : wc.cell? ⟨gb371, 0, none⟩ = some (.int .i64 0) := (blk_cell BK371.out 0).trans rfl
    have hcz24_1 : wc.cell? ⟨gb371, 1, none⟩ = some (.int .i64 0) := (blk_cell BK371.out 1).trans rfl
    have hcz24_2 : wc.cell? ⟨gb371, 2, none⟩ = some (.int .i64 0) := (blk_cell BK371.out 2).trans rfl
    have hcz24_3 : wc.cell? ⟨gb371, 3, none⟩ = some (.int .i64 0) := (blk_cell BK371.out 3).trans rfl
    have hfz24_0 := blk_frozen BK371.out 0
    have hfz24_1 := blk_frozen BK371.out 1
    have hfz24_2 := blk_frozen BK371.out 2
    have hfz24_3 := blk_frozen BK371.out 3
    go_wp2
    refine bodyPost_ret (results_ct rfl _ _ gb371 25 #[.int .i64 0, .int .i64 0, .int .i64 0, .int .i64 0] (0, 0) _ rfl Z100 Try.underlying25 rfl Z59) rfl ?_
    exact ⟨Z106, Z107⟩
   ·
    replace c21 := Bool.eq_false_iff.mpr c21
    subst c21
    have H1 : ((spec_ciTwice.f a0_0 a0_1 a0_2 a0_3 a1_0 a1_1 a1_2 a1_3).bind fun t374 => ((spec_ciFits.f t374 a1_0).bind fun t375 => (if t375 = true then ((spec_ciFits.f t374 a1_1).bind fun t376 => (if t376 = true then ((spec_ciFits.f t374 a1_2).bind fun t377 => (if t377 = true then ((spec_ciFits.f t374 a1_3).bind fun t378 => (if t378 = true then ((spec_ciIf.f kj2 (wrap64 (a0_0 - (wrap64 (t374 * a1_0)))) (wrap64 (a0_1 - (wrap64 (t374 * a1_1)))) (wrap64 (a0_2 - (wrap64 (t374 * a1_2)))) (wrap64 (a0_3 - (wrap64 (t374 * a1_3))))).bind fun bt379 => (some (bt379.1, bt379.2.1, bt379.2.2.1, bt379.2.2.2.1, bt379.2.2.2.2))) else (some (0, 0, 0, 0, false)))) else (some (0, 0, 0, 0, false)))) else (some (0, 0, 0, 0, false)))) else (some (0, 0, 0, 0, false))))) = some (r1, r2, r3, r4, r5) := by rw [if_neg (show ¬ (false = true) by decide)] at H; exact H
    clear H
    have H := H1
    clear H1
    replace H := Option.bind_eq_some_iff.mp H
    obtain ⟨t374, A250, H⟩ := H
    replace H : ((spec_ciFits.f t374 a1_0).bind fun t375 => (if t375 = true then ((spec_ciFits.f t374 a1_1).bind fun t376 => (if t376 = true then ((spec_ciFits.f t374 a1_2).bind fun t377 => (if t377 = true then ((spec_ciFits.f t374 a1_3).bind fun t378 => (if t378 = true then ((spec_ciIf.f kj2 (wrap64 (a0_0 - (wrap64 (t374 * a1_0)))) (wrap64 (a0_1 - (wrap64 (t374 * a1_1)))) (wrap64 (a0_2 - (wrap64 (t374 * a1_2)))) (wrap64 (a0_3 - (wrap64 (t374 * a1_3))))).bind fun bt379 => (some (bt379.1, bt379.2.1, bt379.2.2.1, bt379.2.2.2.1, bt379.2.2.2.2))) else (some (0, 0, 0, 0, false)))) else (some (0, 0, 0, 0, false)))) else (some (0, 0, 0, 0, false)))) else (some (0, 0, 0, 0, false)))) = some (r1, r2, r3, r4, r5) := H
    have A25 := Aside0.mk A250
    clear A250
    replace H := Option.bind_eq_some_iff.mp H
    obtain ⟨t375, A260, H⟩ := H
    replace H : (if t375 = true then ((spec_ciFits.f t374 a1_1).bind fun t376 => (if t376 = true then ((spec_ciFits.f t374 a1_2).bind fun t377 => (if t377 = true then ((spec_ciFits.f t374 a1_3).bind fun t378 => (if t378 = true then ((spec_ciIf.f kj2 (wrap64 (a0_0 - (wrap64 (t374 * a1_0)))) (wrap64 (a0_1 - (wrap64 (t374 * a1_1)))) (wrap64 (a0_2 - (wrap64 (t374 * a1_2)))) (wrap64 (a0_3 - (wrap64 (t374 * a1_3))))).bind fun bt379 => (some (bt379.1, bt379.2.1, bt379.2.2.1, bt379.2.2.2.1, bt379.2.2.2.2))) else (some (0, 0, 0, 0, false)))) else (some (0, 0, 0, 0, false)))) else (some (0, 0, 0, 0, false)))) else (some (0, 0, 0, 0, false))) = some (r1, r2, r3, r4, r5) := H
    have A26 := Aside0.mk A260
    clear A260
    by_cases c27 : t375 = true
    ·
     subst c27
     have H1 : ((spec_ciFits.f t374 a1_1).bind fun t376 => (if t376 = true then ((spec_ciFits.f t374 a1_2).bind fun t377 => (if t377 = true then ((spec_ciFits.f t374 a1_3).bind fun t378 => (if t378 = true then ((spec_ciIf.f kj2 (wrap64 (a0_0 - (wrap64 (t374 * a1_0)))) (wrap64 (a0_1 - (wrap64 (t374 * a1_1)))) (wrap64 (a0_2 - (wrap64 (t374 * a1_2)))) (wrap64 (a0_3 - (wrap64 (t374 * a1_3))))).bind fun bt379 => (some (bt379.1, bt379.2.1, bt379.2.2.1, bt379.2.2.2.1, bt379.2.2.2.2))) else (some (0, 0, 0, 0, false)))) else (some (0, 0, 0, 0, false)))) else (some (0, 0, 0, 0, false)))) = some (r1, r2, r3, r4, r5) := by rw [if_pos rfl] at H; exact H
     clear H
     have H := H1
     clear H1
     replace H := Option.bind_eq_some_iff.mp H
     obtain ⟨t376, A280, H⟩ := H
     replace H : (if t376 = true then ((spec_ciFits.f t374 a1_2).bind fun t377 => (if t377 = true then ((spec_ciFits.f t374 a1_3).bind fun t378 => (if t378 = true then ((spec_ciIf.f kj2 (wrap64 (a0_0 - (wrap64 (t374 * a1_0)))) (wrap64 (a0_1 - (wrap64 (t374 * a1_1)))) (wrap64 (a0_2 - (wrap64 (t374 * a1_2)))) (wrap64 (a0_3 - (wrap64 (t374 * a1_3))))).bind fun bt379 => (some (bt379.1, bt379.2.1, bt379.2.2.1, bt379.2.2.2.1, bt379.2.2.2.2))) else (some (0, 0, 0, 0, false)))) else (some (0, 0, 0, 0, false)))) else (some (0, 0, 0, 0, false))) = some (r1, r2, r3, r4, r5) := H
     have A28 := Aside0.mk A280
     clear A280
     by_cases c29 : t376 = true
     ·
      subst c29
      have H1 : ((spec_ciFits.f t374 a1_2).bind fun t377 => (if t377 = true then ((spec_ciFits.f t374 a1_3).bind fun t378 => (if t378 = true then ((spec_ciIf.f kj2 (wrap64 (a0_0 - (wrap64 (t374 * a1_0)))) (wrap64 (a0_1 - (wrap64 (t374 * a1_1)))) (wrap64 (a0_2 - (wrap64 (t374 * a1_2)))) (wrap64 (a0_3 - (wrap64 (t374 * a1_3))))).bind fun bt379 => (some (bt379.1, bt379.2.1, bt379.2.2.1, bt379.2.2.2.1, bt379.2.2.2.2))) else (some (0, 0, 0, 0, false)))) else (some (0, 0, 0, 0, false)))) = some (r1, r2, r3, r4, r5) := by rw [if_pos rfl] at H; exact H
      clear H
      have H := H1
      clear H1
      replace H := Option.bind_eq_some_iff.mp H
      obtain ⟨t377, A300, H⟩ := H
      replace H : (if t377 = true then ((spec_ciFits.f t374 a1_3).bind fun t378 => (if t378 = true then ((spec_ciIf.f kj2 (wrap64 (a0_0 - (wrap64 (t374 * a1_0)))) (wrap64 (a0_1 - (wrap64 (t374 * a1_1)))) (wrap64 (a0_2 - (wrap64 (t374 * a1_2)))) (wrap64 (a0_3 - (wrap64 (t374 * a1_3))))).bind fun bt379 => (some (bt379.1, bt379.2.1, bt379.2.2.1, bt379.2.2.2.1, bt379.2.2.2.2))) else (some (0, 0, 0, 0, false)))) else (some (0, 0, 0, 0, false))) = some (r1, r2, r3, r4, r5) := H
      have A30 := Aside0.mk A300
      clear A300
      by_cases c31 : t377 = true
      ·
       subst c31
       have H1 : ((spec_ciFits.f t374 a1_3).bind fun t378 => (if t378 = true then ((spec_ciIf.f kj2 (wrap64 (a0_0 - (wrap64 (t374 * a1_0)))) (wrap64 (a0_1 - (wrap64 (t374 * a1_1)))) (wrap64 (a0_2 - (wrap64 (t374 * a1_2)))) (wrap64 (a0_3 - (wrap64 (t374 * a1_3))))).bind fun bt379 => (some (bt379.1, bt379.2.1, bt379.2.2.1, bt379.2.2.2.1, bt379.2.2.2.2))) else (some (0, 0, 0, 0, false)))) = some (r1, r2, r3, r4, r5) := by rw [if_pos rfl] at H; exact H
       clear H
       have H := H1
       clear H1
       replace H := Option.bind_eq_some_iff.mp H
       obtain ⟨t378, A320, H⟩ := H
       replace H : (if t378 = true then ((spec_ciIf.f kj2 (wrap64 (a0_0 - (wrap64 (t374 * a1_0)))) (wrap64 (a0_1 - (wrap64 (t374 * a1_1)))) (wrap64 (a0_2 - (wrap64 (t374 * a1_2)))) (wrap64 (a0_3 - (wrap64 (t374 * a1_3))))).bind fun bt379 => (some (bt379.1, bt379.2.1, bt379.2.2.1, bt379.2.2.2.1, bt379.2.2.2.2))) else (some (0, 0, 0, 0, false))) = some (r1, r2, r3, r4, r5) := H
       have A32 := Aside0.mk A320
       clear A320
       by_cases c33 : t378 = true
       ·
        subst c33
        have H1 : ((spec_ciIf.f kj2 (wrap64 (a0_0 - (wrap64 (t374 * a1_0)))) (wrap64 (a0_1 - (wrap64 (t374 * a1_1)))) (wrap64 (a0_2 - (wrap64 (t374 * a1_2)))) (wrap64 (a0_3 - (wrap64 (t374 * a1_3))))).bind fun bt379 => (some (bt379.1, bt379.2.1, bt379.2.2.1, bt379.2.2.2.1, bt379.2.2.2.2))) = some (r1, r2, r3, r4, r5) := by rw [if_pos rfl] at H; exact H
        clear H
        have H := H1
        clear H1
        replace H := Option.bind_eq_some_iff.mp H
        obtain ⟨⟨t379, t380, t381, t382, t383⟩, A340, H⟩ := H
        replace H : (some (t379, t380, t381, t382, t383)) = some (r1, r2, r3, r4, r5) := H
        have A34 := Aside0.mk A340
        clear A340
        simp only [Option.some.injEq, Prod.mk.injEq] at H
        obtain ⟨rfl, rfl, rfl, rfl, rfl⟩ := H
        have hnb35 := NB369_370.out
        have hnc35 := NB370_369.out
        have hnb36 := NB369_371.out
        have hnc36 := NB371_369.out
        have hcz37_0 : wc.cell? ⟨gb369, 0, none⟩ = some (.int .i64 a0_0) := (blk_cell BK369.out 0).trans rfl
        have hcz37_1 : wc.cell? ⟨gb369, 1, none⟩ = some (.int .i64 a0_1) := (blk_cell BK369.out 1).trans rfl
        have hcz37_2 : wc.cell? ⟨gb369, 2, none⟩ = some (.int .i64 a0_2) := (blk_cell BK369.out 2).trans rfl
        have hcz37_3 : wc.cell? ⟨gb369, 3, none⟩ = some (.int .i64 a0_3) := (blk_cell BK369.out 3).trans rfl
        have hfz37_0 := blk_frozen BK369.out 0
        have hfz37_1 := blk_frozen BK369.out 1
        have hfz37_2 := blk_frozen BK369.out 2
        have hfz37_3 := blk_frozen BK369.out 3
        have hnb38 := NB370_371.out
        have hnc38 := NB371_370.out
        have hcz39_0 : wc.cell? ⟨gb370, 0, none⟩ = some (.int .i64 a1_0) := (blk_cell BK370.out 0).trans rfl
        have hcz39_1 : wc.cell? ⟨gb370, 1, none⟩ = some (.int .i64 a1_1) := (blk_cell BK370.out 1).trans rfl
        have hcz39_2 : wc.cell? ⟨gb370, 2, none⟩ = some (.int .i64 a1_2) := (blk_cell BK370.out 2).trans rfl
        have hcz39_3 : wc.cell? ⟨gb370, 3, none⟩ = some (.int .i64 a1_3) := (blk_cell BK370.out 3).trans rfl
        have hfz39_0 := blk_frozen BK370.out 0
        have hfz39_1 := blk_frozen BK370.out 1
        have hfz39_2 := blk_frozen BK370.out 2
        have hfz39_3 := blk_frozen BK370.out 3
        go_wp2_with (first | ((with_reducible refine gate_callee (f := 26) rfl ?_); refine goesN_ 26 (some 18) Try.func26 #[.agg #[.int .i64 a0_0, .int .i64 a0_1, .int .i64 a0_2, .int .i64 a0_3], .agg #[.int .i64 a1_0, .int .i64 a1_1, .int .i64 a1_2, .int .i64 a1_3]] ?_; (with_reducible refine (spec_ciTwice.calls a0_0 a0_1 a0_2 a0_3 a1_0 a1_1 a1_2 a1_3 t374 _ A25.out).mono ?_); rintro e w40 ⟨rfl, hb⟩; refine ⟨_, rfl, ?_⟩; replace BK369 := bk_ BK369 hb; replace BK370 := bk_ BK370 hb; replace BK371 := bk_ BK371 hb; replace HB := Aside0.mk (below_step Z107 hb); clear hb; obtain ⟨_, _, _, _, _, _, _, _⟩ := cz4_ BK370) | ((with_reducible refine gate_callee (f := 34) rfl ?_); refine goesN_ 34 (some 22) Try.func34 #[.int .i64 t374, .int .i64 a1_0] ?_; (with_reducible refine (spec_ciFits.calls t374 a1_0 true _ A26.out).mono ?_); rintro e w' ⟨rfl, ⟨nd, rfl⟩⟩; refine ⟨_, rfl, ?_⟩; (try (rw [drewN_self w40]; generalize hq_ : World.drewN w40 _ = w40; replace BK369 := bq_ BK369 hq_; replace BK370 := bq_ BK370 hq_; replace BK371 := bq_ BK371 hq_; replace HB : Aside0 (Below w.heap.size w w40) := ⟨Z112⟩; clear hq_; obtain ⟨_, _, _, _, _, _, _, _⟩ := cz4_ BK369; obtain ⟨_, _, _, _, _, _, _, _⟩ := cz4_ BK370; obtain ⟨_, _, _, _, _, _, _, _⟩ := cz4_ BK371))) | (go_at_call 34; (with_reducible refine (spec_ciFits.calls t374 a1_1 true _ A28.out).mono ?_); rintro e w' ⟨rfl, ⟨nd, rfl⟩⟩; (try (rw [drewN_self w40]; generalize hq_ : World.drewN w40 _ = w40; replace BK369 := bq_ BK369 hq_; replace BK370 := bq_ BK370 hq_; replace BK371 := bq_ BK371 hq_; replace HB : Aside0 (Below w.heap.size w w40) := ⟨Z112⟩; clear hq_; obtain ⟨_, _, _, _, _, _, _, _⟩ := cz4_ BK369; obtain ⟨_, _, _, _, _, _, _, _⟩ := cz4_ BK370; obtain ⟨_, _, _, _, _, _, _, _⟩ := cz4_ BK371))) | (go_at_call 34; (with_reducible refine (spec_ciFits.calls t374 a1_2 true _ A30.out).mono ?_); rintro e w' ⟨rfl, ⟨nd, rfl⟩⟩; (try (rw [drewN_self w40]; generalize hq_ : World.drewN w40 _ = w40; replace BK369 := bq_ BK369 hq_; replace BK370 := bq_ BK370 hq_; replace BK371 := bq_ BK371 hq_; replace HB : Aside0 (Below w.heap.size w w40) := ⟨Z112⟩; clear hq_; obtain ⟨_, _, _, _, _, _, _, _⟩ := cz4_ BK369; obtain ⟨_, _, _, _, _, _, _, _⟩ := cz4_ BK370; obtain ⟨_, _, _, _, _, _, _, _⟩ := cz4_ BK371))) | (go_at_call 34; (with_reducible refine (spec_ciFits.calls t374 a1_3 true _ A32.out).mono ?_); rintro e w' ⟨rfl, ⟨nd, rfl⟩⟩; (try (rw [drewN_self w40]; generalize hq_ : World.drewN w40 _ = w40; replace BK369 := bq_ BK369 hq_; replace BK370 := bq_ BK370 hq_; replace BK371 := bq_ BK371 hq_; replace HB : Aside0 (Below w.heap.size w w40) := ⟨Z112⟩; clear hq_; obtain ⟨_, _, _, _, _, _, _, _⟩ := cz4_ BK369; obtain ⟨_, _, _, _, _, _, _, _⟩ := cz4_ BK370; obtain ⟨_, _, _, _, _, _, _, _⟩ := cz4_ BK371)); obtain ⟨_, _, _, _, _, _, _, _⟩ := cz4_ BK369) | ((with_reducible refine gate_callee (f := 31) rfl ?_); refine goesN_ 31 (some 75) Try.func31 #[.agg #[.int .i64 (wrap64 (a0_0 - (wrap64 (t374 * a1_0)))), .int .i64 (wrap64 (a0_1 - (wrap64 (t374 * a1_1)))), .int .i64 (wrap64 (a0_2 - (wrap64 (t374 * a1_2)))), .int .i64 (wrap64 (a0_3 - (wrap64 (t374 * a1_3))))]] ?_; (with_reducible refine (spec_ciIf.calls kj2 (wrap64 (a0_0 - (wrap64 (t374 * a1_0)))) (wrap64 (a0_1 - (wrap64 (t374 * a1_1)))) (wrap64 (a0_2 - (wrap64 (t374 * a1_2)))) (wrap64 (a0_3 - (wrap64 (t374 * a1_3)))) t379 t380 t381 t382 t383 _ A34.out).mono ?_); rintro e w43 ⟨rfl, hb⟩; refine ⟨_, rfl, ?_⟩; replace BK369 := bk_ BK369 hb; replace BK370 := bk_ BK370 hb; replace BK371 := bk_ BK371 hb; replace HB := Aside0.mk (below_step Z107 hb); clear hb; obtain ⟨_, _, _, _, _, _, _, _⟩ := cz4_ BK371))
        refine bodyPost_ret (results_ct rfl _ _ gb371 25 #[.int .i64 t379, .int .i64 t380, .int .i64 t381, .int .i64 t382] (0, 0) _ rfl (by (with_reducible repeat (first | refine blk_drewN ?_ _ | refine blk_drew ?_ | refine blk_alloc ?_ _)); refine blk_put (cs := #[.int .i64 t379, .int .i64 t380, .int .i64 t381, .int .i64 0]) ?_ 3 _ rfl; (with_reducible repeat (first | refine blk_drewN ?_ _ | refine blk_drew ?_ | refine blk_alloc ?_ _)); refine blk_put (cs := #[.int .i64 t379, .int .i64 t380, .int .i64 0, .int .i64 0]) ?_ 2 _ rfl; (with_reducible repeat (first | refine blk_drewN ?_ _ | refine blk_drew ?_ | refine blk_alloc ?_ _)); refine blk_put (cs := #[.int .i64 t379, .int .i64 0, .int .i64 0, .int .i64 0]) ?_ 1 _ rfl; (with_reducible repeat (first | refine blk_drewN ?_ _ | refine blk_drew ?_ | refine blk_alloc ?_ _)); refine blk_put (cs := #[.int .i64 0, .int .i64 0, .int .i64 0, .int .i64 0]) ?_ 0 _ rfl; (with_reducible repeat (first | refine blk_drewN ?_ _ | refine blk_drew ?_ | refine blk_alloc ?_ _)); exact BK371.out) Try.underlying25 rfl Z59) rfl ?_
        exact ⟨Z106, Z107⟩
       ·
        replace c33 := Bool.eq_false_iff.mpr c33
        subst c33
        have H1 : (some (0, 0, 0, 0, false)) = some (r1, r2, r3, r4, r5) := by rw [if_neg (show ¬ (false = true) by decide)] at H; exact H
        clear H
        have H := H1
        clear H1
        simp only [Option.some.injEq, Prod.mk.injEq] at H
        obtain ⟨rfl, rfl, rfl, rfl, rfl⟩ := H
        have hnb45 := NB369_370.out
        have hnc45 := NB370_369.out
        have hnb46 := NB369_371.out
        have hnc46 := NB371_369.out
        have hcz47_0 : wc.cell? ⟨gb369, 0, none⟩ = some (.int .i64 a0_0) := (blk_cell BK369.out 0).trans rfl
        have hcz47_1 : wc.cell? ⟨gb369, 1, none⟩ = some (.int .i64 a0_1) := (blk_cell BK369.out 1).trans rfl
        have hcz47_2 : wc.cell? ⟨gb369, 2, none⟩ = some (.int .i64 a0_2) := (blk_cell BK369.out 2).trans rfl
        have hcz47_3 : wc.cell? ⟨gb369, 3, none⟩ = some (.int .i64 a0_3) := (blk_cell BK369.out 3).trans rfl
        have hfz47_0 := blk_frozen BK369.out 0
        have hfz47_1 := blk_frozen BK369.out 1
        have hfz47_2 := blk_frozen BK369.out 2
        have hfz47_3 := blk_frozen BK369.out 3
        have hnb48 := NB370_371.out
        have hnc48 := NB371_370.out
        have hcz49_0 : wc.cell? ⟨gb370, 0, none⟩ = some (.int .i64 a1_0) := (blk_cell BK370.out 0).trans rfl
        have hcz49_1 : wc.cell? ⟨gb370, 1, none⟩ = some (.int .i64 a1_1) := (blk_cell BK370.out 1).trans rfl
        have hcz49_2 : wc.cell? ⟨gb370, 2, none⟩ = some (.int .i64 a1_2) := (blk_cell BK370.out 2).trans rfl
        have hcz49_3 : wc.cell? ⟨gb370, 3, none⟩ = some (.int .i64 a1_3) := (blk_cell BK370.out 3).trans rfl
        have hfz49_0 := blk_frozen BK370.out 0
        have hfz49_1 := blk_frozen BK370.out 1
        have hfz49_2 := blk_frozen BK370.out 2
        have hfz49_3 := blk_frozen BK370.out 3
        go_wp2_with (first | ((with_reducible refine gate_callee (f := 26) rfl ?_); refine goesN_ 26 (some 18) Try.func26 #[.agg #[.int .i64 a0_0, .int .i64 a0_1, .int .i64 a0_2, .int .i64 a0_3], .agg #[.int .i64 a1_0, .int .i64 a1_1, .int .i64 a1_2, .int .i64 a1_3]] ?_; (with_reducible refine (spec_ciTwice.calls a0_0 a0_1 a0_2 a0_3 a1_0 a1_1 a1_2 a1_3 t374 _ A25.out).mono ?_); rintro e w50 ⟨rfl, hb⟩; refine ⟨_, rfl, ?_⟩; replace BK369 := bk_ BK369 hb; replace BK370 := bk_ BK370 hb; replace BK371 := bk_ BK371 hb; replace HB := Aside0.mk (below_step Z107 hb); clear hb; obtain ⟨_, _, _, _, _, _, _, _⟩ := cz4_ BK370) | ((with_reducible refine gate_callee (f := 34) rfl ?_); refine goesN_ 34 (some 22) Try.func34 #[.int .i64 t374, .int .i64 a1_0] ?_; (with_reducible refine (spec_ciFits.calls t374 a1_0 true _ A26.out).mono ?_); rintro e w' ⟨rfl, ⟨nd, rfl⟩⟩; refine ⟨_, rfl, ?_⟩; (try (rw [drewN_self w50]; generalize hq_ : World.drewN w50 _ = w50; replace BK369 := bq_ BK369 hq_; replace BK370 := bq_ BK370 hq_; replace BK371 := bq_ BK371 hq_; replace HB : Aside0 (Below w.heap.size w w50) := ⟨Z112⟩; clear hq_; obtain ⟨_, _, _, _, _, _, _, _⟩ := cz4_ BK369; obtain ⟨_, _, _, _, _, _, _, _⟩ := cz4_ BK370; obtain ⟨_, _, _, _, _, _, _, _⟩ := cz4_ BK371))) | (go_at_call 34; (with_reducible refine (spec_ciFits.calls t374 a1_1 true _ A28.out).mono ?_); rintro e w' ⟨rfl, ⟨nd, rfl⟩⟩; (try (rw [drewN_self w50]; generalize hq_ : World.drewN w50 _ = w50; replace BK369 := bq_ BK369 hq_; replace BK370 := bq_ BK370 hq_; replace BK371 := bq_ BK371 hq_; replace HB : Aside0 (Below w.heap.size w w50) := ⟨Z112⟩; clear hq_; obtain ⟨_, _, _, _, _, _, _, _⟩ := cz4_ BK369; obtain ⟨_, _, _, _, _, _, _, _⟩ := cz4_ BK370; obtain ⟨_, _, _, _, _, _, _, _⟩ := cz4_ BK371))) | (go_at_call 34; (with_reducible refine (spec_ciFits.calls t374 a1_2 true _ A30.out).mono ?_); rintro e w' ⟨rfl, ⟨nd, rfl⟩⟩; (try (rw [drewN_self w50]; generalize hq_ : World.drewN w50 _ = w50; replace BK369 := bq_ BK369 hq_; replace BK370 := bq_ BK370 hq_; replace BK371 := bq_ BK371 hq_; replace HB : Aside0 (Below w.heap.size w w50) := ⟨Z112⟩; clear hq_; obtain ⟨_, _, _, _, _, _, _, _⟩ := cz4_ BK369; obtain ⟨_, _, _, _, _, _, _, _⟩ := cz4_ BK370; obtain ⟨_, _, _, _, _, _, _, _⟩ := cz4_ BK371))) | (go_at_call 34; (with_reducible refine (spec_ciFits.calls t374 a1_3 false _ A32.out).mono ?_); rintro e w' ⟨rfl, ⟨nd, rfl⟩⟩; (try (rw [drewN_self w50]; generalize hq_ : World.drewN w50 _ = w50; replace BK369 := bq_ BK369 hq_; replace BK370 := bq_ BK370 hq_; replace BK371 := bq_ BK371 hq_; replace HB : Aside0 (Below w.heap.size w w50) := ⟨Z112⟩; clear hq_; obtain ⟨_, _, _, _, _, _, _, _⟩ := cz4_ BK369; obtain ⟨_, _, _, _, _, _, _, _⟩ := cz4_ BK370; obtain ⟨_, _, _, _, _, _, _, _⟩ := cz4_ BK371)); obtain ⟨_, _, _, _, _, _, _, _⟩ := cz4_ BK371))
        refine bodyPost_ret (results_ct rfl _ _ gb371 25 #[.int .i64 0, .int .i64 0, .int .i64 0, .int .i64 0] (0, 0) _ rfl Z100 Try.underlying25 rfl Z59) rfl ?_
        exact ⟨Z106, Z107⟩
      ·
       replace c31 := Bool.eq_false_iff.mpr c31
       subst c31
       have H1 : (some (0, 0, 0, 0, false)) = some (r1, r2, r3, r4, r5) := by rw [if_neg (show ¬ (false = true) by decide)] at H; exact H
       clear H
       have H := H1
       clear H1
       simp only [Option.some.injEq, Prod.mk.injEq] at H
       obtain ⟨rfl, rfl, rfl, rfl, rfl⟩ := H
       have hnb53 := NB369_370.out
       have hnc53 := NB370_369.out
       have hnb54 := NB369_371.out
       have hnc54 := NB371_369.out
       have hcz55_0 : wc.cell? ⟨gb369, 0, none⟩ = some (.int .i64 a0_0) := (blk_cell BK369.out 0).trans rfl
       have hcz55_1 : wc.cell? ⟨gb369, 1, none⟩ = some (.int .i64 a0_1) := (blk_cell BK369.out 1).trans rfl
       have hcz55_2 : wc.cell? ⟨gb369, 2, none⟩ = some (.int .i64 a0_2) := (blk_cell BK369.out 2).trans rfl
       have hcz55_3 : wc.cell? ⟨gb369, 3, none⟩ = some (.int .i64 a0_3) := (blk_cell BK369.out 3).trans rfl
       have hfz55_0 := blk_frozen BK369.out 0
       have hfz55_1 := blk_frozen BK369.out 1
       have hfz55_2 := blk_frozen BK369.out 2
       have hfz55_3 := blk_frozen BK369.out 3
       have hnb56 := NB370_371.out
       have hnc56 := NB371_370.out
       have hcz57_0 : wc.cell? ⟨gb370, 0, none⟩ = some (.int .i64 a1_0) := (blk_cell BK370.out 0).trans rfl
       have hcz57_1 : wc.cell? ⟨gb370, 1, none⟩ = some (.int .i64 a1_1) := (blk_cell BK370.out 1).trans rfl
       have hcz57_2 : wc.cell? ⟨gb370, 2, none⟩ = some (.int .i64 a1_2) := (blk_cell BK370.out 2).trans rfl
       have hcz57_3 : wc.cell? ⟨gb370, 3, none⟩ = some (.int .i64 a1_3) := (blk_cell BK370.out 3).trans rfl
       have hfz57_0 := blk_frozen BK370.out 0
       have hfz57_1 := blk_frozen BK370.out 1
       have hfz57_2 := blk_frozen BK370.out 2
       have hfz57_3 := blk_frozen BK370.out 3
       go_wp2_with (first | ((with_reducible refine gate_callee (f := 26) rfl ?_); refine goesN_ 26 (some 18) Try.func26 #[.agg #[.int .i64 a0_0, .int .i64 a0_1, .int .i64 a0_2, .int .i64 a0_3], .agg #[.int .i64 a1_0, .int .i64 a1_1, .int .i64 a1_2, .int .i64 a1_3]] ?_; (with_reducible refine (spec_ciTwice.calls a0_0 a0_1 a0_2 a0_3 a1_0 a1_1 a1_2 a1_3 t374 _ A25.out).mono ?_); rintro e w58 ⟨rfl, hb⟩; refine ⟨_, rfl, ?_⟩; replace BK369 := bk_ BK369 hb; replace BK370 := bk_ BK370 hb; replace BK371 := bk_ BK371 hb; replace HB := Aside0.mk (below_step Z107 hb); clear hb; obtain ⟨_, _, _, _, _, _, _, _⟩ := cz4_ BK370) | ((with_reducible refine gate_callee (f := 34) rfl ?_); refine goesN_ 34 (some 22) Try.func34 #[.int .i64 t374, .int .i64 a1_0] ?_; (with_reducible refine (spec_ciFits.calls t374 a1_0 true _ A26.out).mono ?_); rintro e w' ⟨rfl, ⟨nd, rfl⟩⟩; refine ⟨_, rfl, ?_⟩; (try (rw [drewN_self w58]; generalize hq_ : World.drewN w58 _ = w58; replace BK369 := bq_ BK369 hq_; replace BK370 := bq_ BK370 hq_; replace BK371 := bq_ BK371 hq_; replace HB : Aside0 (Below w.heap.size w w58) := ⟨Z112⟩; clear hq_; obtain ⟨_, _, _, _, _, _, _, _⟩ := cz4_ BK369; obtain ⟨_, _, _, _, _, _, _, _⟩ := cz4_ BK370; obtain ⟨_, _, _, _, _, _, _, _⟩ := cz4_ BK371))) | (go_at_call 34; (with_reducible refine (spec_ciFits.calls t374 a1_1 true _ A28.out).mono ?_); rintro e w' ⟨rfl, ⟨nd, rfl⟩⟩; (try (rw [drewN_self w58]; generalize hq_ : World.drewN w58 _ = w58; replace BK369 := bq_ BK369 hq_; replace BK370 := bq_ BK370 hq_; replace BK371 := bq_ BK371 hq_; replace HB : Aside0 (Below w.heap.size w w58) := ⟨Z112⟩; clear hq_; obtain ⟨_, _, _, _, _, _, _, _⟩ := cz4_ BK369; obtain ⟨_, _, _, _, _, _, _, _⟩ := cz4_ BK370; obtain ⟨_, _, _, _, _, _, _, _⟩ := cz4_ BK371))) | (go_at_call 34; (with_reducible refine (spec_ciFits.calls t374 a1_2 false _ A30.out).mono ?_); rintro e w' ⟨rfl, ⟨nd, rfl⟩⟩; (try (rw [drewN_self w58]; generalize hq_ : World.drewN w58 _ = w58; replace BK369 := bq_ BK369 hq_; replace BK370 := bq_ BK370 hq_; replace BK371 := bq_ BK371 hq_; replace HB : Aside0 (Below w.heap.size w w58) := ⟨Z112⟩; clear hq_; obtain ⟨_, _, _, _, _, _, _, _⟩ := cz4_ BK369; obtain ⟨_, _, _, _, _, _, _, _⟩ := cz4_ BK370; obtain ⟨_, _, _, _, _, _, _, _⟩ := cz4_ BK371)); obtain ⟨_, _, _, _, _, _, _, _⟩ := cz4_ BK371))
       refine bodyPost_ret (results_ct rfl _ _ gb371 25 #[.int .i64 0, .int .i64 0, .int .i64 0, .int .i64 0] (0, 0) _ rfl Z100 Try.underlying25 rfl Z59) rfl ?_
       exact ⟨Z106, Z107⟩
     ·
      replace c29 := Bool.eq_false_iff.mpr c29
      subst c29
      have H1 : (some (0, 0, 0, 0, false)) = some (r1, r2, r3, r4, r5) := by rw [if_neg (show ¬ (false = true) by decide)] at H; exact H
      clear H
      have H := H1
      clear H1
      simp only [Option.some.injEq, Prod.mk.injEq] at H
      obtain ⟨rfl, rfl, rfl, rfl, rfl⟩ := H
      have hnb61 := NB369_370.out
      have hnc61 := NB370_369.out
      have hnb62 := NB369_371.out
      have hnc62 := NB371_369.out
      have hcz63_0 : wc.cell? ⟨gb369, 0, none⟩ = some (.int .i64 a0_0) := (blk_cell BK369.out 0).trans rfl
      have hcz63_1 : wc.cell? ⟨gb369, 1, none⟩ = some (.int .i64 a0_1) := (blk_cell BK369.out 1).trans rfl
      have hcz63_2 : wc.cell? ⟨gb369, 2, none⟩ = some (.int .i64 a0_2) := (blk_cell BK369.out 2).trans rfl
      have hcz63_3 : wc.cell? ⟨gb369, 3, none⟩ = some (.int .i64 a0_3) := (blk_cell BK369.out 3).trans rfl
      have hfz63_0 := blk_frozen BK369.out 0
      have hfz63_1 := blk_frozen BK369.out 1
      have hfz63_2 := blk_frozen BK369.out 2
      have hfz63_3 := blk_frozen BK369.out 3
      have hnb64 := NB370_371.out
      have hnc64 := NB371_370.out
      have hcz65_0 : wc.cell? ⟨gb370, 0, none⟩ = some (.int .i64 a1_0) := (blk_cell BK370.out 0).trans rfl
      have hcz65_1 : wc.cell? ⟨gb370, 1, none⟩ = some (.int .i64 a1_1) := (blk_cell BK370.out 1).trans rfl
      have hcz65_2 : wc.cell? ⟨gb370, 2, none⟩ = some (.int .i64 a1_2) := (blk_cell BK370.out 2).trans rfl
      have hcz65_3 : wc.cell? ⟨gb370, 3, none⟩ = some (.int .i64 a1_3) := (blk_cell BK370.out 3).trans rfl
      have hfz65_0 := blk_frozen BK370.out 0
      have hfz65_1 := blk_frozen BK370.out 1
      have hfz65_2 := blk_frozen BK370.out 2
      have hfz65_3 := blk_frozen BK370.out 3
      go_wp2_with (first | ((with_reducible refine gate_callee (f := 26) rfl ?_); refine goesN_ 26 (some 18) Try.func26 #[.agg #[.int .i64 a0_0, .int .i64 a0_1, .int .i64 a0_2, .int .i64 a0_3], .agg #[.int .i64 a1_0, .int .i64 a1_1, .int .i64 a1_2, .int .i64 a1_3]] ?_; (with_reducible refine (spec_ciTwice.calls a0_0 a0_1 a0_2 a0_3 a1_0 a1_1 a1_2 a1_3 t374 _ A25.out).mono ?_); rintro e w66 ⟨rfl, hb⟩; refine ⟨_, rfl, ?_⟩; replace BK369 := bk_ BK369 hb; replace BK370 := bk_ BK370 hb; replace BK371 := bk_ BK371 hb; replace HB := Aside0.mk (below_step Z107 hb); clear hb; obtain ⟨_, _, _, _, _, _, _, _⟩ := cz4_ BK370) | ((with_reducible refine gate_callee (f := 34) rfl ?_); refine goesN_ 34 (some 22) Try.func34 #[.int .i64 t374, .int .i64 a1_0] ?_; (with_reducible refine (spec_ciFits.calls t374 a1_0 true _ A26.out).mono ?_); rintro e w' ⟨rfl, ⟨nd, rfl⟩⟩; refine ⟨_, rfl, ?_⟩; (try (rw [drewN_self w66]; generalize hq_ : World.drewN w66 _ = w66; replace BK369 := bq_ BK369 hq_; replace BK370 := bq_ BK370 hq_; replace BK371 := bq_ BK371 hq_; replace HB : Aside0 (Below w.heap.size w w66) := ⟨Z112⟩; clear hq_; obtain ⟨_, _, _, _, _, _, _, _⟩ := cz4_ BK369; obtain ⟨_, _, _, _, _, _, _, _⟩ := cz4_ BK370; obtain ⟨_, _, _, _, _, _, _, _⟩ := cz4_ BK371))) | (go_at_call 34; (with_reducible refine (spec_ciFits.calls t374 a1_1 false _ A28.out).mono ?_); rintro e w' ⟨rfl, ⟨nd, rfl⟩⟩; (try (rw [drewN_self w66]; generalize hq_ : World.drewN w66 _ = w66; replace BK369 := bq_ BK369 hq_; replace BK370 := bq_ BK370 hq_; replace BK371 := bq_ BK371 hq_; replace HB : Aside0 (Below w.heap.size w w66) := ⟨Z112⟩; clear hq_; obtain ⟨_, _, _, _, _, _, _, _⟩ := cz4_ BK369; obtain ⟨_, _, _, _, _, _, _, _⟩ := cz4_ BK370; obtain ⟨_, _, _, _, _, _, _, _⟩ := cz4_ BK371)); obtain ⟨_, _, _, _, _, _, _, _⟩ := cz4_ BK371))
      refine bodyPost_ret (results_ct rfl _ _ gb371 25 #[.int .i64 0, .int .i64 0, .int .i64 0, .int .i64 0] (0, 0) _ rfl Z100 Try.underlying25 rfl Z59) rfl ?_
      exact ⟨Z106, Z107⟩
    ·
     replace c27 := Bool.eq_false_iff.mpr c27
     subst c27
     have H1 : (some (0, 0, 0, 0, false)) = some (r1, r2, r3, r4, r5) := by rw [if_neg (show ¬ (false = true) by decide)] at H; exact H
     clear H
     have H := H1
     clear H1
     simp only [Option.some.injEq, Prod.mk.injEq] at H
     obtain ⟨rfl, rfl, rfl, rfl, rfl⟩ := H
     have hnb69 := NB369_370.out
     have hnc69 := NB370_369.out
     have hnb70 := NB369_371.out
     have hnc70 := NB371_369.out
     have hcz71_0 : wc.cell? ⟨gb369, 0, none⟩ = some (.int .i64 a0_0) := (blk_cell BK369.out 0).trans rfl
     have hcz71_1 : wc.cell? ⟨gb369, 1, none⟩ = some (.int .i64 a0_1) := (blk_cell BK369.out 1).trans rfl
     have hcz71_2 : wc.cell? ⟨gb369, 2, none⟩ = some (.int .i64 a0_2) := (blk_cell BK369.out 2).trans rfl
     have hcz71_3 : wc.cell? ⟨gb369, 3, none⟩ = some (.int .i64 a0_3) := (blk_cell BK369.out 3).trans rfl
     have hfz71_0 := blk_frozen BK369.out 0
     have hfz71_1 := blk_frozen BK369.out 1
     have hfz71_2 := blk_frozen BK369.out 2
     have hfz71_3 := blk_frozen BK369.out 3
     have hnb72 := NB370_371.out
     have hnc72 := NB371_370.out
     have hcz73_0 : wc.cell? ⟨gb370, 0, none⟩ = some (.int .i64 a1_0) := (blk_cell BK370.out 0).trans rfl
     have hcz73_1 : wc.cell? ⟨gb370, 1, none⟩ = some (.int .i64 a1_1) := (blk_cell BK370.out 1).trans rfl
     have hcz73_2 : wc.cell? ⟨gb370, 2, none⟩ = some (.int .i64 a1_2) := (blk_cell BK370.out 2).trans rfl
     have hcz73_3 : wc.cell? ⟨gb370, 3, none⟩ = some (.int .i64 a1_3) := (blk_cell BK370.out 3).trans rfl
     have hfz73_0 := blk_frozen BK370.out 0
     have hfz73_1 := blk_frozen BK370.out 1
     have hfz73_2 := blk_frozen BK370.out 2
     have hfz73_3 := blk_frozen BK370.out 3
     go_wp2_with (first | ((with_reducible refine gate_callee (f := 26) rfl ?_); refine goesN_ 26 (some 18) Try.func26 #[.agg #[.int .i64 a0_0, .int .i64 a0_1, .int .i64 a0_2, .int .i64 a0_3], .agg #[.int .i64 a1_0, .int .i64 a1_1, .int .i64 a1_2, .int .i64 a1_3]] ?_; (with_reducible refine (spec_ciTwice.calls a0_0 a0_1 a0_2 a0_3 a1_0 a1_1 a1_2 a1_3 t374 _ A25.out).mono ?_); rintro e w74 ⟨rfl, hb⟩; refine ⟨_, rfl, ?_⟩; replace BK369 := bk_ BK369 hb; replace BK370 := bk_ BK370 hb; replace BK371 := bk_ BK371 hb; replace HB := Aside0.mk (below_step Z107 hb); clear hb; obtain ⟨_, _, _, _, _, _, _, _⟩ := cz4_ BK370) | ((with_reducible refine gate_callee (f := 34) rfl ?_); refine goesN_ 34 (some 22) Try.func34 #[.int .i64 t374, .int .i64 a1_0] ?_; (with_reducible refine (spec_ciFits.calls t374 a1_0 false _ A26.out).mono ?_); rintro e w' ⟨rfl, ⟨nd, rfl⟩⟩; refine ⟨_, rfl, ?_⟩; (try (rw [drewN_self w74]; generalize hq_ : World.drewN w74 _ = w74; replace BK369 := bq_ BK369 hq_; replace BK370 := bq_ BK370 hq_; replace BK371 := bq_ BK371 hq_; replace HB : Aside0 (Below w.heap.size w w74) := ⟨Z112⟩; clear hq_; obtain ⟨_, _, _, _, _, _, _, _⟩ := cz4_ BK369; obtain ⟨_, _, _, _, _, _, _, _⟩ := cz4_ BK370; obtain ⟨_, _, _, _, _, _, _, _⟩ := cz4_ BK371)); obtain ⟨_, _, _, _, _, _, _, _⟩ := cz4_ BK371))
     refine bodyPost_ret (results_ct rfl _ _ gb371 25 #[.int .i64 0, .int .i64 0, .int .i64 0, .int .i64 0] (0, 0) _ rfl Z100 Try.underlying25 rfl Z59) rfl ?_
     exact ⟨Z106, Z107⟩

-- NOT PRINTED: function 3 (laws_FnCirclesTouch)

end Go.Proofs.Ytkllcinoodfffaa.P
