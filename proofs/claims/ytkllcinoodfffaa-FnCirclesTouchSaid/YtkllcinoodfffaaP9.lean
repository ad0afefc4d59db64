/- Written by a program of this session: for Go functions that a statement reaches, Lean functions with the same answers and the proofs that the calls come to them; conditions: none but the arguments' kinds. -/
import Derived.Test.YtkllcinoodfffaaP0
import Derived.Test.YtkllcinoodfffaaP7
import Derived.Test.YtkllcinoodfffaaP8
namespace Go.Proofs.Ytkllcinoodfffaa.P
open Go.RowKit Go.Proofs.YtkllcinoodfffaaW.PrintWords Go.Proofs.YtkllcinoodfffaaW.PrintLast Go.Proofs.YtkllcinoodfffaaW.PrintMore
attribute [local go_sem] max2_int min2_int max_two min_two max_three min_three max_four min_four   -- for this text's walks alone
set_option linter.unusedVariables false
set_option linter.unusedSimpArgs false

/-! ### impl_ReflectCircle: function 17 -/
def impl_ReflectCircle.f (a0_0 : Int) (a0_1 : Int) (a0_2 : Int) (a0_3 : Int) (a1_0 : Int) (a1_1 : Int) (a1_2 : Int) (a1_3 : Int) : Option (Int × Int × Int × Int × Bool) := (impl_areCircles.f (([(⟨a0_0, a0_1, a0_2, a0_3⟩ : S25), (⟨a1_0, a1_1, a1_2, a1_3⟩ : S25)] : List (S25)))).bind fun t359 => (if t359 = true then ((impl_twice.f a0_0 a0_1 a0_2 a0_3 a1_0 a1_1 a1_2 a1_3).bind fun t360 => ((impl_drawn.f (wrap64 (a0_0 - (wrap64 (t360 * a1_0)))) (wrap64 (a0_1 - (wrap64 (t360 * a1_1)))) (wrap64 (a0_2 - (wrap64 (t360 * a1_2)))) (wrap64 (a0_3 - (wrap64 (t360 * a1_3))))).bind fun bt361 => (some (bt361.1, bt361.2.1, bt361.2.2.1, bt361.2.2.2.1, bt361.2.2.2.2)))) else (some (0, 0, 0, 0, false)))
set_option maxHeartbeats 8000000 in
set_option maxRecDepth 100000 in
theorem impl_ReflectCircle.calls (a0_0 : Int) (a0_1 : Int) (a0_2 : Int) (a0_3 : Int) (a1_0 : Int) (a1_1 : Int) (a1_2 : Int) (a1_3 : Int) (r1 : Int) (r2 : Int) (r3 : Int) (r4 : Int) (r5 : Bool) (w : World) (h : impl_ReflectCircle.f a0_0 a0_1 a0_2 a0_3 a1_0 a1_1 a1_2 a1_3 = some (r1, r2, r3, r4, r5)) :
  Calls Try.prog 17 #[.agg #[.int .i64 a0_0, .int .i64 a0_1, .int .i64 a0_2, .int .i64 a0_3], .agg #[.int .i64 a1_0, .int .i64 a1_1, .int .i64 a1_2, .int .i64 a1_3]] w fun e w' => e = .returned (.tuple #[.agg #[.int .i64 r1, .int .i64 r2, .int .i64 r3, .int .i64 r4], .bool r5]) ∧ Below w.heap.size w w' := by
 have hu25 := Try.underlying25
 have HB := Aside0.mk (Below.refl w.heap.size w)
 have H : ((impl_areCircles.f (([(⟨a0_0, a0_1, a0_2, a0_3⟩ : S25), (⟨a1_0, a1_1, a1_2, a1_3⟩ : S25)] : List (S25)))).bind fun t359 => (if t359 = true then ((impl_twice.f a0_0 a0_1 a0_2 a0_3 a1_0 a1_1 a1_2 a1_3).bind fun t360 => ((impl_drawn.f (wrap64 (a0_0 - (wrap64 (t360 * a1_0)))) (wrap64 (a0_1 - (wrap64 (t360 * a1_1)))) (wrap64 (a0_2 - (wrap64 (t360 * a1_2)))) (wrap64 (a0_3 - (wrap64 (t360 * a1_3))))).bind fun bt361 => (some (bt361.1, bt361.2.1, bt361.2.2.1, bt361.2.2.2.1, bt361.2.2.2.2)))) else (some (0, 0, 0, 0, false)))) = some (r1, r2, r3, r4, r5) := h
 clear h
 obtain ⟨y356, hy356⟩ : ∃ y_ : List (S25), y_ = (([(⟨a0_0, a0_1, a0_2, a0_3⟩ : S25), (⟨a1_0, a1_1, a1_2, a1_3⟩ : S25)] : List (S25))) := ⟨_, rfl⟩
 replace H : ((impl_areCircles.f y356).bind fun t359 => (if t359 = true then ((impl_twice.f a0_0 a0_1 a0_2 a0_3 a1_0 a1_1 a1_2 a1_3).bind fun t360 => ((impl_drawn.f (wrap64 (a0_0 - (wrap64 (t360 * a1_0)))) (wrap64 (a0_1 - (wrap64 (t360 * a1_1)))) (wrap64 (a0_2 - (wrap64 (t360 * a1_2)))) (wrap64 (a0_3 - (wrap64 (t360 * a1_3))))).bind fun bt361 => (some (bt361.1, bt361.2.1, bt361.2.2.1, bt361.2.2.2.1, bt361.2.2.2.2)))) else (some (0, 0, 0, 0, false)))) = some (r1, r2, r3, r4, r5) := by first | (rw [hy356]; with_reducible exact H) | (have H2_ := (Option.bind_some _ _).symm.trans H; rw [hy356]; with_reducible exact H2_) | (have H2_ := (Option.bind_some _ _).symm.trans H; with_reducible exact H2_) | with_reducible exact H | (rw [hy356]; exact H) | exact H
 have Ny356 := Aside0.mk hy356
 clear hy356
 replace H := Option.bind_eq_some_iff.mp H
 obtain ⟨t359, A30, H⟩ := H
 replace H : (if t359 = true then ((impl_twice.f a0_0 a0_1 a0_2 a0_3 a1_0 a1_1 a1_2 a1_3).bind fun t360 => ((impl_drawn.f (wrap64 (a0_0 - (wrap64 (t360 * a1_0)))) (wrap64 (a0_1 - (wrap64 (t360 * a1_1)))) (wrap64 (a0_2 - (wrap64 (t360 * a1_2)))) (wrap64 (a0_3 - (wrap64 (t360 * a1_3))))).bind fun bt361 => (some (bt361.1, bt361.2.1, bt361.2.2.1, bt361.2.2.2.1, bt361.2.2.2.2)))) else (some (0, 0, 0, 0, false))) = some (r1, r2, r3, r4, r5) := H
 have A3 := Aside0.mk A30
 clear A30
 by_cases c4 : t359 = true
 ·
  subst c4
  have H1 : ((impl_twice.f a0_0 a0_1 a0_2 a0_3 a1_0 a1_1 a1_2 a1_3).bind fun t360 => ((impl_drawn.f (wrap64 (a0_0 - (wrap64 (t360 * a1_0)))) (wrap64 (a0_1 - (wrap64 (t360 * a1_1)))) (wrap64 (a0_2 - (wrap64 (t360 * a1_2)))) (wrap64 (a0_3 - (wrap64 (t360 * a1_3))))).bind fun bt361 => (some (bt361.1, bt361.2.1, bt361.2.2.1, bt361.2.2.2.1, bt361.2.2.2.2)))) = some (r1, r2, r3, r4, r5) := by rw [if_pos rfl] at H; exact H
  clear H
  have H := H1
  clear H1
  replace H := Option.bind_eq_some_iff.mp H
  obtain ⟨t360, A50, H⟩ := H
  replace H : ((impl_drawn.f (wrap64 (a0_0 - (wrap64 (t360 * a1_0)))) (wrap64 (a0_1 - (wrap64 (t360 * a1_1)))) (wrap64 (a0_2 - (wrap64 (t360 * a1_2)))) (wrap64 (a0_3 - (wrap64 (t360 * a1_3))))).bind fun bt361 => (some (bt361.1, bt361.2.1, bt361.2.2.1, bt361.2.2.2.1, bt361.2.2.2.2))) = some (r1, r2, r3, r4, r5) := H
  have A5 := Aside0.mk A50
  clear A50
  replace H := Option.bind_eq_some_iff.mp H
  obtain ⟨⟨t361, t362, t363, t364, t365⟩, A60, H⟩ := H
  replace H : (some (t361, t362, t363, t364, t365)) = some (r1, r2, r3, r4, r5) := H
  have A6 := Aside0.mk A60
  clear A60
  simp only [Option.some.injEq, Prod.mk.injEq] at H
  obtain ⟨rfl, rfl, rfl, rfl, rfl⟩ := H
  go_enter Try.func17, Try.ntmps17
  go_wp2_with (first | ((with_reducible refine gate_dst (N := 2) rfl ?_); refine boxN_ 2 #[.int .i64 a0_0, .int .i64 a0_1, .int .i64 a0_2, .int .i64 a0_3] 25 ?_; intro gb353 hg w7 hbox hb; have BK353 := Aside0.mk hbox; have GW353 := gw_ (w := w) Z111 hg; have GE353 := gw_ (w := w) Z111 hg; replace HB := Aside0.mk (below_step Z111 hb); clear hb hbox hg) | ((with_reducible refine gate_dst (N := 3) rfl ?_); refine boxN_ 3 #[.int .i64 a1_0, .int .i64 a1_1, .int .i64 a1_2, .int .i64 a1_3] 25 ?_; intro gb354 hg w8 hbox hb; have BK354 := Aside0.mk hbox; have GW354 := gw_ (w := w) Z46 hg; have GE354 := gw_ (w := w) Z46 hg; replace HB := Aside0.mk (below_step Z46 hb); have NB353_354 := nl_ BK353 hg; have NB354_353 := ng_ BK353 hg; replace BK353 := bk_ BK353 hb; clear hb hbox hg) | ((with_reducible refine gate_dst (N := 4) rfl ?_); refine boxN_ 4 #[.int .i64 0, .int .i64 0, .int .i64 0, .int .i64 0] 25 ?_; intro gb355 hg w9 hbox hb; have BK355 := Aside0.mk hbox; have GW355 := gw_ (w := w) Z67 hg; have GE355 := gw_ (w := w) Z67 hg; replace HB := Aside0.mk (below_step Z67 hb); have NB353_355 := nl_ BK353 hg; have NB355_353 := ng_ BK353 hg; replace BK353 := bk_ BK353 hb; have NB354_355 := nl_ BK354 hg; have NB355_354 := ng_ BK354 hg; replace BK354 := bk_ BK354 hb; clear hb hbox hg; have hnb10 := NB353_354.out; have hnc10 := NB354_353.out; have hnb11 := NB353_355.out; have hnc11 := NB355_353.out; obtain ⟨_, _, _, _, _, _, _, _⟩ := cz4_ BK353; have hnb13 := NB354_355.out; have hnc13 := NB355_354.out; obtain ⟨_, _, _, _, _, _, _, _⟩ := cz4_ BK354) | ((with_reducible refine gate_dst (N := 9) rfl ?_); refine Kd.R_lit k25 _ 25 ?hg (N := 9) ?hd (xs := ([(⟨a0_0, a0_1, a0_2, a0_3⟩ : S25), (⟨a1_0, a1_1, a1_2, a1_3⟩ : S25)] : List (S25))) (inner := [.int .i64 a0_0, .int .i64 a0_1, .int .i64 a0_2, .int .i64 a0_3, .int .i64 a1_0, .int .i64 a1_1, .int .i64 a1_2, .int .i64 a1_3]) (ok := fun _ => True) (okp := fun _ => True) ?hr ?hp (fun _ hk => hk) trivial (Below.refl _ _) (Nat.le_refl _) (by simp) ?_; (case hd => rfl); (case hg => rfl); (case hr => first | (go_simp; done) | (go_simp; rfl)); (case hp => exact (Reps.c4 (show Kd.M k25 _ _ _ (⟨a0_0, a0_1, a0_2, a0_3⟩ : S25) [.int .i64 a0_0, .int .i64 a0_1, .int .i64 a0_2, .int .i64 a0_3] from (k25_mkM _ _ _ (⟨a0_0, a0_1, a0_2, a0_3⟩ : S25) )) (Reps.c4 (show Kd.M k25 _ _ _ (⟨a1_0, a1_1, a1_2, a1_3⟩ : S25) [.int .i64 a1_0, .int .i64 a1_1, .int .i64 a1_2, .int .i64 a1_3] from (k25_mkM _ _ _ (⟨a1_0, a1_1, a1_2, a1_3⟩ : S25) )) (Reps.none _ _)))); intro v357 w15 ho16 hb hg_ hnew_; clear hg_ hnew_; (first | rw [← Ny356.out] at ho16 | (simp only [Int.reduceToNat] at ho16; rw [← Ny356.out] at ho16)); have HO358 := Aside0.mk (Kd.R_lower (Kd.R_newB (Kd.R_newB (Kd.R_newB ho16 (g := gb353) (o := .cells #[.int .i64 a0_0, .int .i64 a0_1, .int .i64 a0_2, .int .i64 a0_3] 25 (0, 0)) (by (with_reducible repeat (first | refine blk_drewN ?_ _ | refine blk_drew ?_ | refine blk_alloc ?_ _)); exact BK353.out)) (g := gb354) (o := .cells #[.int .i64 a1_0, .int .i64 a1_1, .int .i64 a1_2, .int .i64 a1_3] 25 (0, 0)) (by (with_reducible repeat (first | refine blk_drewN ?_ _ | refine blk_drew ?_ | refine blk_alloc ?_ _)); exact BK354.out)) (g := gb355) (o := .cells #[.int .i64 0, .int .i64 0, .int .i64 0, .int .i64 0] 25 (0, 0)) (by (with_reducible repeat (first | refine blk_drewN ?_ _ | refine blk_drew ?_ | refine blk_alloc ?_ _)); exact BK355.out)) (below_size Z92)); replace BK353 := bk_ BK353 hb; replace BK354 := bk_ BK354 hb; replace BK355 := bk_ BK355 hb; replace HB := Aside0.mk (below_step Z92 hb); clear hb ho16; obtain ⟨Ao17, co17, eo17⟩ := Kd.R_slice HO358.out; subst eo17) | ((with_reducible refine gate_callee (f := 23) rfl ?_); refine goesN_ 23 (some 10) Try.func23 #[.slice Ao17 y356.length co17] ?_; (with_reducible refine (impl_areCircles.calls _ _ y356 true _ ?side1 ?side2 A3.out).mono ?_); (case side1 => repeat (first | exact (Kd.R_reads' HO358.out).2.2 | (with_reducible refine Kd.C_alloc ?_ _) | (with_reducible refine Kd.C_drewN ?_ _) | (with_reducible refine Kd.C_drew ?_))); (case side2 => exact (Kd.R_reads' HO358.out).2.1); rintro e w18 ⟨rfl, hb⟩; refine ⟨_, rfl, ?_⟩; replace HO358 := Aside0.mk (Kd.R_below Z20 hb); replace BK353 := bk_ BK353 hb; replace BK354 := bk_ BK354 hb; replace BK355 := bk_ BK355 hb; replace HB := Aside0.mk (below_step Z92 hb); clear hb; obtain ⟨_, _, _, _, _, _, _, _⟩ := cz4_ BK353; obtain ⟨_, _, _, _, _, _, _, _⟩ := cz4_ BK354) | ((with_reducible refine gate_callee (f := 24) rfl ?_); refine goesN_ 24 (some 15) Try.func24 #[.agg #[.int .i64 a0_0, .int .i64 a0_1, .int .i64 a0_2, .int .i64 a0_3], .agg #[.int .i64 a1_0, .int .i64 a1_1, .int .i64 a1_2, .int .i64 a1_3]] ?_; (with_reducible refine (impl_twice.calls a0_0 a0_1 a0_2 a0_3 a1_0 a1_1 a1_2 a1_3 t360 _ A5.out).mono ?_); rintro e w21 ⟨rfl, hb⟩; refine ⟨_, rfl, ?_⟩; replace HO358 := Aside0.mk (Kd.R_below Z20 hb); replace BK353 := bk_ BK353 hb; replace BK354 := bk_ BK354 hb; replace BK355 := bk_ BK355 hb; replace HB := Aside0.mk (below_step Z92 hb); clear hb; obtain ⟨_, _, _, _, _, _, _, _⟩ := cz4_ BK353; obtain ⟨_, _, _, _, _, _, _, _⟩ := cz4_ BK354) | ((with_reducible refine gate_callee (f := 29) rfl ?_); refine goesN_ 29 (some 45) Try.func29 #[.agg #[.int .i64 (wrap64 (a0_0 - (wrap64 (t360 * a1_0)))), .int .i64 (wrap64 (a0_1 - (wrap64 (t360 * a1_1)))), .int .i64 (wrap64 (a0_2 - (wrap64 (t360 * a1_2)))), .int .i64 (wrap64 (a0_3 - (wrap64 (t360 * a1_3))))]] ?_; (with_reducible refine (impl_drawn.calls (wrap64 (a0_0 - (wrap64 (t360 * a1_0)))) (wrap64 (a0_1 - (wrap64 (t360 * a1_1)))) (wrap64 (a0_2 - (wrap64 (t360 * a1_2)))) (wrap64 (a0_3 - (wrap64 (t360 * a1_3)))) t361 t362 t363 t364 t365 _ A6.out).mono ?_); rintro e w24 ⟨rfl, hb⟩; refine ⟨_, rfl, ?_⟩; replace HO358 := Aside0.mk (Kd.R_below Z20 hb); replace BK353 := bk_ BK353 hb; replace BK354 := bk_ BK354 hb; replace BK355 := bk_ BK355 hb; replace HB := Aside0.mk (below_step Z92 hb); clear hb; obtain ⟨_, _, _, _, _, _, _, _⟩ := cz4_ BK355))
  refine bodyPost_ret (results_ct rfl _ _ gb355 25 #[.int .i64 t361, .int .i64 t362, .int .i64 t363, .int .i64 t364] (0, 0) _ rfl (by (with_reducible repeat (first | refine blk_drewN ?_ _ | refine blk_drew ?_ | refine blk_alloc ?_ _)); refine blk_put (cs := #[.int .i64 t361, .int .i64 t362, .int .i64 t363, .int .i64 0]) ?_ 3 _ rfl; (with_reducible repeat (first | refine blk_drewN ?_ _ | refine blk_drew ?_ | refine blk_alloc ?_ _)); refine blk_put (cs := #[.int .i64 t361, .int .i64 t362, .int .i64 0, .int .i64 0]) ?_ 2 _ rfl; (with_reducible repeat (first | refine blk_drewN ?_ _ | refine blk_drew ?_ | refine blk_alloc ?_ _)); refine blk_put (cs := #[.int .i64 t361, .int .i64 0, .int .i64 0, .int .i64 0]) ?_ 1 _ rfl; (with_reducible repeat (first | refine blk_drewN ?_ _ | refine blk_drew ?_ | refine blk_alloc ?_ _)); refine blk_put (cs := #[.int .i64 0, .int .i64 0, .int .i64 0, .int .i64 0]) ?_ 0 _ rfl; (with_reducible repeat (first | refine blk_drewN ?_ _ | refine blk_drew ?_ | refine blk_alloc ?_ _)); exact BK355.out) Try.underlying25 rfl Z59) rfl ?_
  exact ⟨Z106, Z92⟩
 ·
  replace c4 := Bool.eq_false_iff.mpr c4
  subst c4
  have H1 : (some (0, 0, 0, 0, false)) = some (r1, r2, r3, r4, r5) := by rw [if_neg (show ¬ (false = true) by decide)] at H; exact H
  clear H
  have H := H1
  clear H1
  simp only [Option.some.injEq, Prod.mk.injEq] at H
  obtain ⟨rfl, rfl, rfl, rfl, rfl⟩ := H
  go_enter Try.func17, Try.ntmps17
  go_wp2_with (first | ((with_reducible refine gate_dst (N := 2) rfl ?_); refine boxN_ 2 #[.int .i64 a0_0, .int .i64 a0_1, .int .i64 a0_2, .int .i64 a0_3] 25 ?_; intro gb353 hg w26 hbox hb; have BK353 := Aside0.mk hbox; have GW353 := gw_ (w := w) Z111 hg; have GE353 := gw_ (w := w) Z111 hg; replace HB := Aside0.mk (below_step Z111 hb); clear hb hbox hg) | ((with_reducible refine gate_dst (N := 3) rfl ?_); refine boxN_ 3 #[.int .i64 a1_0, .int .i64 a1_1, .int .i64 a1_2, .int .i64 a1_3] 25 ?_; intro gb354 hg w27 hbox hb; have BK354 := Aside0.mk hbox; have GW354 := gw_ (w := w) Z46 hg; have GE354 := gw_ (w := w) Z46 hg; replace HB := Aside0.mk (below_step Z46 hb); have NB353_354 := nl_ BK353 hg; have NB354_353 := ng_ BK353 hg; replace BK353 := bk_ BK353 hb; clear hb hbox hg) | ((with_reducible refine gate_dst (N := 4) rfl ?_); refine boxN_ 4 #[.int .i64 0, .int .i64 0, .int .i64 0, .int .i64 0] 25 ?_; intro gb355 hg w28 hbox hb; have BK355 := Aside0.mk hbox; have GW355 := gw_ (w := w) Z67 hg; have GE355 := gw_ (w := w) Z67 hg; replace HB := Aside0.mk (below_step Z67 hb); have NB353_355 := nl_ BK353 hg; have NB355_353 := ng_ BK353 hg; replace BK353 := bk_ BK353 hb; have NB354_355 := nl_ BK354 hg; have NB355_354 := ng_ BK354 hg; replace BK354 := bk_ BK354 hb; clear hb hbox hg; have hnb29 := NB353_354.out; have hnc29 := NB354_353.out; have hnb30 := NB353_355.out; have hnc30 := NB355_353.out; obtain ⟨_, _, _, _, _, _, _, _⟩ := cz4_ BK353; have hnb32 := NB354_355.out; have hnc32 := NB355_354.out; obtain ⟨_, _, _, _, _, _, _, _⟩ := cz4_ BK354) | ((with_reducible refine gate_dst (N := 9) rfl ?_); refine Kd.R_lit k25 _ 25 ?hg (N := 9) ?hd (xs := ([(⟨a0_0, a0_1, a0_2, a0_3⟩ : S25), (⟨a1_0, a1_1, a1_2, a1_3⟩ : S25)] : List (S25))) (inner := [.int .i64 a0_0, .int .i64 a0_1, .int .i64 a0_2, .int .i64 a0_3, .int .i64 a1_0, .int .i64 a1_1, .int .i64 a1_2, .int .i64 a1_3]) (ok := fun _ => True) (okp := fun _ => True) ?hr ?hp (fun _ hk => hk) trivial (Below.refl _ _) (Nat.le_refl _) (by simp) ?_; (case hd => rfl); (case hg => rfl); (case hr => first | (go_simp; done) | (go_simp; rfl)); (case hp => exact (Reps.c4 (show Kd.M k25 _ _ _ (⟨a0_0, a0_1, a0_2, a0_3⟩ : S25) [.int .i64 a0_0, .int .i64 a0_1, .int .i64 a0_2, .int .i64 a0_3] from (k25_mkM _ _ _ (⟨a0_0, a0_1, a0_2, a0_3⟩ : S25) )) (Reps.c4 (show Kd.M k25 _ _ _ (⟨a1_0, a1_1, a1_2, a1_3⟩ : S25) [.int .i64 a1_0, .int .i64 a1_1, .int .i64 a1_2, .int .i64 a1_3] from (k25_mkM _ _ _ (⟨a1_0, a1_1, a1_2, a1_3⟩ : S25) )) (Reps.none _ _)))); intro v357 w34 ho35 hb hg_ hnew_; clear hg_ hnew_; (first | rw [← Ny356.out] at ho35 | (simp only [Int.reduceToNat] at ho35; rw [← Ny356.out] at ho35)); have HO358 := Aside0.mk (Kd.R_lower (Kd.R_newB (Kd.R_newB (Kd.R_newB ho35 (g := gb353) (o := .cells #[.int .i64 a0_0, .int .i64 a0_1, .int .i64 a0_2, .int .i64 a0_3] 25 (0, 0)) (by (with_reducible repeat (first | refine blk_drewN ?_ _ | refine blk_drew ?_ | refine blk_alloc ?_ _)); exact BK353.out)) (g := gb354) (o := .cells #[.int .i64 a1_0, .int .i64 a1_1, .int .i64 a1_2, .int .i64 a1_3] 25 (0, 0)) (by (with_reducible repeat (first | refine blk_drewN ?_ _ | refine blk_drew ?_ | refine blk_alloc ?_ _)); exact BK354.out)) (g := gb355) (o := .cells #[.int .i64 0, .int .i64 0, .int .i64 0, .int .i64 0] 25 (0, 0)) (by (with_reducible repeat (first | refine blk_drewN ?_ _ | refine blk_drew ?_ | refine blk_alloc ?_ _)); exact BK355.out)) (below_size Z92)); replace BK353 := bk_ BK353 hb; replace BK354 := bk_ BK354 hb; replace BK355 := bk_ BK355 hb; replace HB := Aside0.mk (below_step Z92 hb); clear hb ho35; obtain ⟨Ao36, co36, eo36⟩ := Kd.R_slice HO358.out; subst eo36) | ((with_reducible refine gate_callee (f := 23) rfl ?_); refine goesN_ 23 (some 10) Try.func23 #[.slice Ao36 y356.length co36] ?_; (with_reducible refine (impl_areCircles.calls _ _ y356 false _ ?side1 ?side2 A3.out).mono ?_); (case side1 => repeat (first | exact (Kd.R_reads' HO358.out).2.2 | (with_reducible refine Kd.C_alloc ?_ _) | (with_reducible refine Kd.C_drewN ?_ _) | (with_reducible refine Kd.C_drew ?_))); (case side2 => exact (Kd.R_reads' HO358.out).2.1); rintro e w37 ⟨rfl, hb⟩; refine ⟨_, rfl, ?_⟩; replace HO358 := Aside0.mk (Kd.R_below Z20 hb); replace BK353 := bk_ BK353 hb; replace BK354 := bk_ BK354 hb; replace BK355 := bk_ BK355 hb; replace HB := Aside0.mk (below_step Z92 hb); clear hb; obtain ⟨_, _, _, _, _, _, _, _⟩ := cz4_ BK355))
  refine bodyPost_ret (results_ct rfl _ _ gb355 25 #[.int .i64 0, .int .i64 0, .int .i64 0, .int .i64 0] (0, 0) _ rfl (by (with_reducible repeat (first | refine blk_drewN ?_ _ | refine blk_drew ?_ | refine blk_alloc ?_ _)); refine blk_put (cs := #[.int .i64 0, .int .i64 0, .int .i64 0, .int .i64 0]) ?_ 3 _ rfl; (with_reducible repeat (first | refine blk_drewN ?_ _ | refine blk_drew ?_ | refine blk_alloc ?_ _)); refine blk_put (cs := #[.int .i64 0, .int .i64 0, .int .i64 0, .int .i64 0]) ?_ 2 _ rfl; (with_reducible repeat (first | refine blk_drewN ?_ _ | refine blk_drew ?_ | refine blk_alloc ?_ _)); refine blk_put (cs := #[.int .i64 0, .int .i64 0, .int .i64 0, .int .i64 0]) ?_ 1 _ rfl; (with_reducible repeat (first | refine blk_drewN ?_ _ | refine blk_drew ?_ | refine blk_alloc ?_ _)); refine blk_put (cs := #[.int .i64 0, .int .i64 0, .int .i64 0, .int .i64 0]) ?_ 0 _ rfl; (with_reducible repeat (first | refine blk_drewN ?_ _ | refine blk_drew ?_ | refine blk_alloc ?_ _)); exact BK355.out) Try.underlying25 rfl Z59) rfl ?_
  exact ⟨Z106, Z92⟩

/-! ### spec_l1Most: function 46 -/
def spec_l1Most.f (a0 : Int) (a1 : Int) : Option (Int) := if a0 > a1 then (some a0) else (some a1)
set_option maxHeartbeats 8000000 in
set_option maxRecDepth 100000 in
theorem spec_l1Most.calls (a0 : Int) (a1 : Int) (r : Int) (w : World) (h : spec_l1Most.f a0 a1 = some r) :
  Calls Try.prog 46 #[.int .i64 a0, .int .i64 a1] w fun e w' => e = .returned (.int .i64 r) ∧ Drawn0 w w' := by
 have H : (if a0 > a1 then (some a0) else (some a1)) = some r := h
 clear h
 by_cases c3 : a0 > a1
 ·
  rw [if_pos c3] at H
  have c3b0 : decide (a1 < a0) = true := decide_eq_true c3
  clear c3
  obtain rfl := Option.some.inj H
  go_enter Try.func46, Try.ntmps46
  go_wp2
  go_ret
  exact ⟨Z91, Z64⟩
 ·
  rw [if_neg c3] at H
  have c3b0 : decide (a1 < a0) = false := decide_eq_false c3
  clear c3
  obtain rfl := Option.some.inj H
  go_enter Try.func46, Try.ntmps46
  go_wp2
  go_ret
  exact ⟨Z91, Z64⟩

/-! ### spec_l1Abs: function 43 -/
def spec_l1Abs.f (a0 : Int) : Option (Int) := (spec_l1Most.f a0 (wrap64 (-a0))).bind fun t366 => (some t366)
set_option maxHeartbeats 8000000 in
set_option maxRecDepth 100000 in
theorem spec_l1Abs.calls (a0 : Int) (r : Int) (w : World) (h : spec_l1Abs.f a0 = some r) :
  Calls Try.prog 43 #[.int .i64 a0] w fun e w' => e = .returned (.int .i64 r) ∧ Drawn0 w w' := by
 have H : ((spec_l1Most.f a0 (wrap64 (-a0))).bind fun t366 => (some t366)) = some r := h
 clear h
 replace H := Option.bind_eq_some_iff.mp H
 obtain ⟨t366, A20, H⟩ := H
 replace H : (some t366) = some r := H
 have A2 := Aside0.mk A20
 clear A20
 obtain rfl := Option.some.inj H
 go_enter Try.func43, Try.ntmps43
 go_wp2_with (first | ((with_reducible refine gate_callee (f := 46) rfl ?_); refine goesN_ 46 (some 6) Try.func46 #[.int .i64 a0, .int .i64 (wrap64 (-a0))] ?_; (with_reducible refine (spec_l1Most.calls a0 (wrap64 (-a0)) t366 _ A2.out).mono ?_); rintro e w' ⟨rfl, ⟨nd, rfl⟩⟩; refine ⟨_, rfl, ?_⟩))
 go_ret
 exact ⟨Z91, Z64⟩

/-! ### spec_ciFits: function 34 -/
def spec_ciFits.f (a0 : Int) (a1 : Int) : Option (Bool) := if a0 = 0 then (some true) else ((spec_l1Abs.f a1).bind fun t367 => ((spec_l1Abs.f a0).bind fun t368 => (if t368 = 0 then (none) else (some (decide (t367 ≤ (wrap64 ((10000000 : Int) / t368))))))))
set_option maxHeartbeats 8000000 in
set_option maxRecDepth 100000 in
theorem spec_ciFits.calls (a0 : Int) (a1 : Int) (r : Bool) (w : World) (h : spec_ciFits.f a0 a1 = some r) :
  Calls Try.prog 34 #[.int .i64 a0, .int .i64 a1] w fun e w' => e = .returned (.bool r) ∧ Drawn0 w w' := by
 have H : (if a0 = 0 then (some true) else ((spec_l1Abs.f a1).bind fun t367 => ((spec_l1Abs.f a0).bind fun t368 => (if t368 = 0 then (none) else (some (decide (t367 ≤ (wrap64 ((10000000 : Int) / t368))))))))) = some r := h
 clear h
 by_cases c3 : a0 = 0
 ·
  rw [if_pos c3] at H
  have c3b0 : (a0 == 0) = true := beq_iff_eq.mpr c3
  have c3b1 : (a0 != 0) = false := bne_eq_false_iff_eq.mpr c3
  clear c3
  obtain rfl := Option.some.inj H
  go_enter Try.func34, Try.ntmps34
  go_wp2
  go_ret
  exact ⟨Z91, Z64⟩
 ·
  rw [if_neg c3] at H
  have c3b0 : (a0 == 0) = false := beq_eq_false_iff_ne.mpr c3
  have c3b1 : (a0 != 0) = true := bne_iff_ne.mpr c3
  replace H := Option.bind_eq_some_iff.mp H
  obtain ⟨t367, A40, H⟩ := H
  replace H : ((spec_l1Abs.f a0).bind fun t368 => (if t368 = 0 then (none) else (some (decide (t367 ≤ (wrap64 ((10000000 : Int) / t368))))))) = some r := H
  have A4 := Aside0.mk A40
  clear A40
  replace H := Option.bind_eq_some_iff.mp H
  obtain ⟨t368, A50, H⟩ := H
  replace H : (if t368 = 0 then (none) else (some (decide (t367 ≤ (wrap64 ((10000000 : Int) / t368)))))) = some r := H
  have A5 := Aside0.mk A50
  clear A50
  by_cases c6 : t368 = 0
  ·
   rw [if_pos c6] at H
   exact absurd H (by simp)
  ·
   rw [if_neg c6] at H
   have c6b0 : (t368 == 0) = false := beq_eq_false_iff_ne.mpr c6
   have c6b1 : (t368 != 0) = true := bne_iff_ne.mpr c6
   obtain rfl := Option.some.inj H
   go_enter Try.func34, Try.ntmps34
   go_wp2_with (first | (go_at_call 43; (with_reducible refine (spec_l1Abs.calls a1 t367 _ A4.out).mono ?_); rintro e w' ⟨rfl, ⟨nd, rfl⟩⟩) | (go_at_call 43; (with_reducible refine (spec_l1Abs.calls a0 t368 _ A5.out).mono ?_); rintro e w' ⟨rfl, ⟨nd, rfl⟩⟩))
   go_ret
   exact ⟨Z91, Z64⟩

end Go.Proofs.Ytkllcinoodfffaa.P
